/- Plain facts: buckets of records. -/
import Derived.Test.YtdgipcjigbagfaaGreatPlNums
import Derived.Test.YtdgipcjigbagfaaGreatSring2
namespace Go.Proofs.YtdgipcjigbagfaaGreat.AB
set_option linter.unusedVariables false
set_option linter.unusedSimpArgs false

def Takes (x : Int × Int) : Prop := (0 ≤ x.1 ∧ x.1 ≤ 1099511627776) ∧ 0 ≤ x.2
instance (x : Int × Int) : Decidable (Takes x) := inferInstanceAs (Decidable (_ ∧ _))
theorem getD_drop {q : List (Int × Int)} {k : Nat} {x : Int × Int} (hx : q[k]? = some x) (hk : k < q.length) : q.drop k = x :: q.drop (k + 1) := by
  rw [List.drop_eq_getElem_cons hk]
  congr 1
  have := hx; rw [List.getElem?_eq_getElem hk] at this; injection this

theorem tdv {a g : Int} (a0 : 0 ≤ a) (g1 : 1 ≤ g) : 0 ≤ a.tdiv g ∧ a.tdiv g ≤ a := ⟨Int.tdiv_nonneg a0 (by omega), Int.tdiv_le_self _ a0⟩
/-- the bucket of a record -/
def bk (g : Int) (x : Int × Int) : Int := x.1.tdiv g
theorem bk_b {g : Int} {x : Int × Int} (g1 : 1 ≤ g) (h : Takes x) : 0 ≤ bk g x ∧ bk g x ≤ 1099511627776 := by
  obtain ⟨⟨h0, h1⟩, _⟩ := h
  have := tdv (g := g) h0 g1
  unfold bk; omega
theorem bk_w {g : Int} {x : Int × Int} (g1 : 1 ≤ g) (h : Takes x) : IntKind.wrap .i64 (x.1.tdiv g) = bk g x := by
  have := bk_b g1 h
  exact wrap_id (n := bk g x) (by omega) (by omega)
def NB (w g : Int) : Int := (w + g - 1).tdiv g
theorem NB_b {w g : Int} (g1 : 1 ≤ g) (gw : g ≤ w) (w1 : w ≤ 600) : 1 ≤ NB w g ∧ NB w g ≤ 1200 := by
  have h := tdv (a := w + g - 1) (g := g) (by omega) g1
  have h2 : (g : Int).tdiv g ≤ (w + g - 1).tdiv g := Int.tdiv_le_tdiv (by omega) (by omega)
  have h3 : (g : Int).tdiv g = 1 := Int.tdiv_self (by omega)
  unfold NB; omega
/-- a window and a grain that there are -/
def Rok (w g : Int) : Prop := (1 ≤ g ∧ g ≤ w) ∧ w ≤ 600
def Kp (g n e : Int) (x : Int × Int) : Bool := decide (e - bk g x < n)

theorem cutL_all {α : Type} (q : List α) : cutL q 0 q.length = q := by unfold cutL; simp

end Go.Proofs.YtdgipcjigbagfaaGreat.AB
namespace Go.Proofs.YtdgipcjigbagfaaGreat.AB
set_option linter.unusedVariables false
set_option linter.unusedSimpArgs false

abbrev Bk : Type := Int × Int × Int × Bool

/-- the cells lo.. (len of them) lead to the buckets bs -/
structure Rep (l : FL) (f : BL) (lo : Nat) (qs : List Nat) (bs : List Bk) : Prop where
  len : qs.length = bs.length
  cells : ∀ (i : Nat) (q : Nat), qs[i]? = some q → l[lo + i]? = some (some q)
  rows : ∀ (i : Nat) (q : Nat) (b : Bk), qs[i]? = some q → bs[i]? = some b → f[q]? = some b
  nodup : qs.Nodup

/-- buckets that are told small enough -/
def AtOk (bs : List Bk) : Prop := ∀ b ∈ bs, 0 ≤ b.1 ∧ b.1 ≤ 1099511627776

/-- what is forgotten -/
def gone (n nw : Int) (b : Bk) : Bool := decide (n ≤ nw - b.1)

theorem rgone_eq {l : FL} {f : BL} {q : Nat} {b : Bk} (hf : f[q]? = some b) (hb : 0 ≤ b.1 ∧ b.1 ≤ 1099511627776) (lo len : Nat) (rw_ rg rn nw : Int) (ov : Bool) (w0 : -1 ≤ nw) (w1 : nw ≤ 1099511627776) :
    S.rgone l f q lo len rw_ rg rn nw ov = some (gone rn nw b) := by
  unfold S.rgone
  rw [hf]
  simp only [optK]
  rw [wrap_id (n := nw - b.1) (by omega) (by omega)]
  rfl

theorem rix_loop (fu : Nat) (l : FL) (f : BL) (lo : Nat) (lo2 len2 : Nat) (rw_ rg rn nw : Int) (ov : Bool) (w0 : -1 ≤ nw) (w1 : nw ≤ 1099511627776) (qs : List Nat) (bs : List Bk) (hR : Rep l f lo qs bs) (hA : AtOk bs) (hl : bs.length < 100000) :
    ∀ (n i : Nat), i ≤ bs.length → bs.length < n + i →
    S.rix_l0 fu l f lo bs.length lo2 len2 rw_ rg rn nw ov n i = some (match (bs.drop i).findIdx? (gone rn nw) with | some j => .inl ((i + j : Nat) : Int) | none => .inr ((bs.length : Int), false)) := by
  intro n
  induction n with
  | zero => intro i _ _; omega
  | succ n ih =>
    intro i hi hn
    unfold S.rix_l0
    by_cases c : i < bs.length
    · have g1 : ((i : Int) < ((bs.length : Nat) : Int)) := by omega
      have g2 : inB (i : Int) bs.length = true := by unfold inB; simp; omega
      obtain ⟨b, hb⟩ : ∃ b, bs[i]? = some b := ⟨bs[i]'c, by simp⟩
      obtain ⟨q, hq⟩ : ∃ q, qs[i]? = some q := ⟨qs[i]'(by rw [hR.len]; exact c), by simp⟩
      have g3 : l[Int.toNat (i : Int) + lo]? = some (some q) := by have := hR.cells i q hq; rw [Nat.add_comm] at this; simpa using this
      have hw : IntKind.wrap .i64 ((i : Int) + 1) = ((i + 1 : Nat) : Int) := by rw [wrap_id (by omega) (by omega)]; omega
      have hg := rgone_eq (l := l) (hR.rows i q b hq hb) (hA b (List.mem_of_getElem? hb)) lo2 len2 rw_ rg rn nw ov w0 w1
      simp only [g1, g2, g3, decide_true, cond_true, optK, hg, hw]
      rw [List.drop_eq_getElem_cons c, List.findIdx?_cons]
      have hb' : bs[i] = b := by rw [List.getElem?_eq_getElem c] at hb; injection hb
      rw [hb']
      cases hgb : gone rn nw b with
      | true => simp
      | false =>
        simp only [cond_false]
        rw [ih (i + 1) (by omega) (by omega)]
        cases hfi : (bs.drop (i + 1)).findIdx? (gone rn nw) with
        | none => simp
        | some j => simp; omega
    · have g1 : ¬ ((i : Int) < ((bs.length : Nat) : Int)) := by omega
      have hk2 : i = bs.length := by omega
      simp only [g1, decide_false, cond_false]
      rw [List.drop_eq_nil_of_le (by omega), hk2]; rfl

theorem set_get {l : FL} {k i : Nat} {x : Option Nat} (hk : k < l.length) : (l.set k x)[i]? = if i = k then some x else l[i]? := by
  rw [List.getElem?_set]
  by_cases h : k = i
  · subst h; simp [hk]
  · simp [h, Ne.symm h]

/-- what stays: indices and buckets -/
def stay (n nw : Int) : List Nat → List Bk → List Nat
  | q :: qs, b :: bs => if gone n nw b then stay n nw qs bs else q :: stay n nw qs bs
  | _, _ => []
theorem stay_le (n nw : Int) : ∀ (qs : List Nat) (bs : List Bk), (stay n nw qs bs).length ≤ qs.length := by
  intro qs
  induction qs with
  | nil => intro bs; cases bs <;> simp [stay]
  | cons q qs ih =>
    intro bs
    cases bs with
    | nil => simp [stay]
    | cons b bs =>
      have := ih bs
      simp only [stay]
      split
      · simp; omega
      · simp; omega

/-- the rest of the deletion: done holds the indices that were kept, in the first places -/
theorem rdel_loop (fu : Nat) (l : FL) (f : BL) (lo : Nat) (lo2 len2 : Nat) (rw_ rg rn nw : Int) (ov : Bool) (w0 : -1 ≤ nw) (w1 : nw ≤ 1099511627776) (len : Nat) (hl : len < 100000) :
    ∀ (n j : Nat) (y : FL) (done qs : List Nat) (bs : List Bk), done.length ≤ j → j + bs.length = len → qs.length = bs.length → bs.length < n → lo + len ≤ y.length →
    (∀ (i q : Nat), done[i]? = some q → y[lo + i]? = some (some q)) → (∀ (i q : Nat), qs[i]? = some q → y[lo + (j + i)]? = some (some q)) →
    (∀ (i q : Nat) (b : Bk), qs[i]? = some q → bs[i]? = some b → f[q]? = some b) → AtOk bs →
    ∃ y' : FL, S.rdel_l0 fu l f lo len lo2 len2 rw_ rg rn nw ov n done.length j y = some ((((done ++ stay rn nw qs bs).length : Nat) : Int), (len : Int), false, y') ∧ y'.length = y.length ∧
      (∀ (i q : Nat), (done ++ stay rn nw qs bs)[i]? = some q → y'[lo + i]? = some (some q)) := by
  intro n
  induction n with
  | zero => intro j y done qs bs _ _ _ h; omega
  | succ n ih =>
    intro j y done qs bs hd hj hqb hn hy hdone hqs hrows hA
    unfold S.rdel_l0
    cases bs with
    | nil =>
      have hjl : j = len := by simpa using hj
      have hq0 : qs = [] := List.eq_nil_of_length_eq_zero (by simpa using hqb)
      subst hq0
      have g1 : ¬ ((j : Int) < ((len : Nat) : Int)) := by omega
      simp only [g1, decide_false, cond_false]
      refine ⟨y, by simp [stay, hjl], rfl, ?_⟩
      simpa [stay] using hdone
    | cons b bs =>
      cases qs with
      | nil => simp at hqb
      | cons q qs =>
        simp only [List.length_cons] at hj hqb hn
        have g1 : ((j : Int) < ((len : Nat) : Int)) := by omega
        have g2 : inB (j : Int) len = true := by unfold inB; simp; omega
        have g3 : y[Int.toNat (j : Int) + lo]? = some (some q) := by have := hqs 0 q rfl; rw [Nat.add_comm] at this; simpa using this
        have hw : IntKind.wrap .i64 ((j : Int) + 1) = ((j + 1 : Nat) : Int) := by rw [wrap_id (by omega) (by omega)]; omega
        have hg := rgone_eq (l := y) (hrows 0 q b rfl rfl) (hA b (List.mem_cons_self ..)) lo2 len2 rw_ rg rn nw ov w0 w1
        simp only [g1, g2, g3, decide_true, cond_true, optK, hg, hw]
        cases hgb : gone rn nw b with
        | true =>
          simp only [Bool.not_true, cond_false, stay, hgb, if_true]
          exact ih (j + 1) y done qs bs (by omega) (by omega) (by omega) (by omega) hy hdone (fun i q' hq' => by have := hqs (i + 1) q' hq'; rw [show j + 1 + i = j + (i + 1) by omega]; exact this)
            (fun i q' b' h1 h2 => hrows (i + 1) q' b' h1 h2) (fun b' hb' => hA b' (List.mem_cons_of_mem _ hb'))
        | false =>
          have hw2 : IntKind.wrap .i64 ((done.length : Int) + 1) = (((done ++ [q]).length : Nat) : Int) := by rw [wrap_id (by omega) (by omega)]; simp
          have g4 : inB (done.length : Int) len = true := by unfold inB; simp; omega
          have hk : done.length + lo < y.length := by omega
          have g5 : Nat.blt (Int.toNat (done.length : Int) + lo) y.length = true := by
            simp only [Int.toNat_natCast]; exact Nat.blt_eq.mpr hk
          simp only [Bool.not_false, cond_true, g4, g5, Bool.and_self, stay, hgb, Bool.false_eq_true, if_false, hw2]
          obtain ⟨y', h1, h2, h3⟩ := ih (j + 1) (y.set (Int.toNat (done.length : Int) + lo) (some q)) (done ++ [q]) qs bs (by simp; omega) (by omega) (by omega) (by omega) (by rw [List.length_set]; exact hy)
            (fun i q' hq' => by
              simp only [Int.toNat_natCast]
              rw [set_get hk]
              by_cases hi : i < done.length
              · rw [if_neg (by omega)]
                rw [List.getElem?_append_left hi] at hq'
                exact hdone i q' hq'
              · have hi2 : i = done.length := by have := (List.getElem?_eq_some_iff.mp hq').1; simp at this; omega
                subst hi2
                simp at hq'; subst hq'
                rw [if_pos (by omega)])
            (fun i q' hq' => by
              simp only [Int.toNat_natCast]
              rw [set_get hk, if_neg (by omega)]
              have := hqs (i + 1) q' hq'; rw [show j + 1 + i = j + (i + 1) by omega]; exact this)
            (fun i q' b' h1 h2 => hrows (i + 1) q' b' h1 h2) (fun b' hb' => hA b' (List.mem_cons_of_mem _ hb'))
          rw [List.append_assoc] at h1 h3
          exact ⟨y', h1, by rw [h2, List.length_set], h3⟩

def keepB (n nw : Int) (bs : List Bk) : List Bk := bs.filter fun b => !gone n nw b
theorem stay_len (n nw : Int) : ∀ (qs : List Nat) (bs : List Bk), qs.length = bs.length → (stay n nw qs bs).length = (keepB n nw bs).length := by
  intro qs
  induction qs with
  | nil => intro bs h; cases bs with
    | nil => rfl
    | cons b bs => simp at h
  | cons q qs ih =>
    intro bs h
    cases bs with
    | nil => simp at h
    | cons b bs =>
      simp only [stay, keepB, List.filter_cons]
      have := ih bs (by simpa using h)
      unfold keepB at this
      cases gone n nw b <;> simp [this]
theorem stay_mem (n nw : Int) : ∀ (qs : List Nat) (bs : List Bk), qs.length = bs.length → ∀ (i : Nat) (q : Nat) (b : Bk), (stay n nw qs bs)[i]? = some q → (keepB n nw bs)[i]? = some b → ∃ k : Nat, qs[k]? = some q ∧ bs[k]? = some b := by
  intro qs
  induction qs with
  | nil => intro bs h i q b h1; cases bs <;> simp [stay] at h1
  | cons q0 qs ih =>
    intro bs h i q b h1 h2
    cases bs with
    | nil => simp at h
    | cons b0 bs =>
      have hl : qs.length = bs.length := by simpa using h
      simp only [stay, keepB, List.filter_cons] at h1 h2
      cases hg : gone n nw b0 with
      | true =>
        simp only [hg, if_true, Bool.not_true, Bool.false_eq_true, if_false] at h1 h2
        obtain ⟨k, h3, h4⟩ := ih bs hl i q b h1 h2
        exact ⟨k + 1, by simpa using h3, by simpa using h4⟩
      | false =>
        simp only [hg, Bool.false_eq_true, if_false, Bool.not_false, if_true] at h1 h2
        cases i with
        | zero => simp at h1 h2; exact ⟨0, by simp [h1], by simp [h2]⟩
        | succ i =>
          simp only [List.getElem?_cons_succ] at h1 h2
          obtain ⟨k, h3, h4⟩ := ih bs hl i q b h1 h2
          exact ⟨k + 1, by simpa using h3, by simpa using h4⟩
theorem stay_sub (n nw : Int) : ∀ (qs : List Nat) (bs : List Bk), (stay n nw qs bs).Sublist qs := by
  intro qs
  induction qs with
  | nil => intro bs; cases bs <;> exact List.Sublist.refl _
  | cons q qs ih =>
    intro bs
    cases bs with
    | nil => exact List.nil_sublist _
    | cons b bs =>
      simp only [stay]
      split
      · exact (ih bs).cons q
      · exact (ih bs).cons_cons q
theorem stay_none (n nw : Int) : ∀ (qs : List Nat) (bs : List Bk), qs.length = bs.length → bs.findIdx? (gone n nw) = none → stay n nw qs bs = qs ∧ keepB n nw bs = bs := by
  intro qs
  induction qs with
  | nil => intro bs h _; cases bs with
    | nil => exact ⟨rfl, rfl⟩
    | cons b bs => simp at h
  | cons q qs ih =>
    intro bs h hf
    cases bs with
    | nil => simp at h
    | cons b bs =>
      rw [List.findIdx?_cons] at hf
      cases hg : gone n nw b with
      | true => simp [hg] at hf
      | false =>
        simp only [hg, Bool.false_eq_true, if_false, Option.map_eq_none_iff] at hf
        obtain ⟨h1, h2⟩ := ih bs (by simpa using h) hf
        simp only [stay, hg, Bool.false_eq_true, if_false, h1, true_and]
        unfold keepB at h2 ⊢
        rw [List.filter_cons]; simp [hg, h2]
theorem stay_some (n nw : Int) : ∀ (qs : List Nat) (bs : List Bk) (j : Nat), qs.length = bs.length → bs.findIdx? (gone n nw) = some j → j < bs.length ∧ stay n nw qs bs = qs.take j ++ stay n nw (qs.drop (j + 1)) (bs.drop (j + 1)) := by
  intro qs
  induction qs with
  | nil => intro bs j h hf; cases bs with
    | nil => simp at hf
    | cons b bs => simp at h
  | cons q qs ih =>
    intro bs j h hf
    cases bs with
    | nil => simp at h
    | cons b bs =>
      rw [List.findIdx?_cons] at hf
      cases hg : gone n nw b with
      | true =>
        simp [hg] at hf; subst hf
        exact ⟨by simp, by simp [stay, hg]⟩
      | false =>
        simp only [hg, Bool.false_eq_true, if_false] at hf
        cases hf2 : bs.findIdx? (gone n nw) with
        | none => simp [hf2] at hf
        | some k =>
          simp [hf2] at hf; subst hf
          obtain ⟨h1, h2⟩ := ih bs k (by simpa using h) hf2
          exact ⟨by simp; omega, by simp [stay, hg, h2]⟩

/-- deletion of what is too far behind -/
theorem rdel_eq (l : FL) (f : BL) (lo : Nat) (lo2 len2 : Nat) (rw_ rg rn nw : Int) (ov : Bool) (w0 : -1 ≤ nw) (w1 : nw ≤ 1099511627776) (qs : List Nat) (bs : List Bk) (hR : Rep l f lo qs bs) (hA : AtOk bs) (hl : bs.length < 90000) (hy : lo + bs.length ≤ l.length) :
    ∃ l' qs', S.rdel 100000 l f lo bs.length lo2 len2 rw_ rg rn nw ov = some (lo, (keepB rn nw bs).length, l', f, lo2, len2, rw_, rg, rn, nw, ov) ∧ Rep l' f lo qs' (keepB rn nw bs) ∧ l'.length = l.length ∧ (∀ q ∈ qs', q ∈ qs) := by
  have e := rix_loop 100000 l f lo lo2 len2 rw_ rg rn nw ov w0 w1 qs bs hR hA (by omega) 100000 0 (by omega) (by omega)
  have e' : S.rix_l0 100000 l f lo bs.length lo2 len2 rw_ rg rn nw ov 100000 0 = _ := e
  unfold S.rdel S.rix
  rw [e', List.drop_zero]
  cases hf : bs.findIdx? (gone rn nw) with
  | none =>
    obtain ⟨h1, h2⟩ := stay_none rn nw qs bs hR.len hf
    refine ⟨l, qs, ?_, by rw [h2]; exact hR, rfl, fun q h => h⟩
    simp only [optK, Sum.elim_inr, S.rix_a0_1, decide_true, cond_true, h2]
  | some j =>
    obtain ⟨hj, h2⟩ := stay_some rn nw qs bs j hR.len hf
    have hn1 : ¬ ((j : Nat) : Int) = -1 := by omega
    have hw : IntKind.wrap .i64 (((j : Nat) : Int) + 1) = ((j + 1 : Nat) : Int) := by rw [wrap_id (by omega) (by omega)]; omega
    have htl : (qs.take j).length = j := by rw [List.length_take, hR.len]; omega
    obtain ⟨y', h3, h4, h5⟩ := rdel_loop 100000 l f lo lo2 len2 rw_ rg rn nw ov w0 w1 bs.length (by omega) 100000 (j + 1) l (qs.take j) (qs.drop (j + 1)) (bs.drop (j + 1)) (by omega) (by simp; omega) (by simp [hR.len]) (by simp; omega) hy
      (fun i q hq => by
        rw [List.getElem?_take] at hq
        split at hq
        · exact hR.cells i q hq
        · cases hq)
      (fun i q hq => by rw [List.getElem?_drop] at hq; exact hR.cells _ q hq)
      (fun i q b h6 h7 => by rw [List.getElem?_drop] at h6 h7; exact hR.rows _ q b h6 h7) (fun b hb => hA b (List.mem_of_mem_drop hb))
    rw [htl, ← h2] at h3
    rw [← h2] at h5
    have hsl := stay_len rn nw qs bs hR.len
    have hle : (keepB rn nw bs).length ≤ bs.length := List.length_filter_le _ _
    simp only [optK, Sum.elim_inl, S.rix_a0_0, Nat.zero_add, hn1, decide_false, cond_false, hw]
    rw [h3]
    unfold S.rdel_a0_0
    have c1 : (0 ≤ (((stay rn nw qs bs).length : Nat) : Int) ∧ (((stay rn nw qs bs).length : Nat) : Int) ≤ ((bs.length : Nat) : Int)) := by omega
    have c2 : Nat.ble ((stay rn nw qs bs).length + lo + (bs.length - (stay rn nw qs bs).length)) (List.length y') = true := Nat.ble_eq.mpr (by omega)
    simp only [c1, and_self, decide_true, cond_true, Int.toNat_natCast, c2]
    refine ⟨List.take ((stay rn nw qs bs).length + lo) y' ++ fillRows none (bs.length - (stay rn nw qs bs).length) (List.drop ((stay rn nw qs bs).length + lo) y'), stay rn nw qs bs, by rw [hsl], ⟨hsl, fun i q hq => ?_, fun i q b hq hb => ?_, (stay_sub rn nw qs bs).nodup hR.nodup⟩, ?_, fun q hq => (stay_sub rn nw qs bs).subset hq⟩
    · have hi := (List.getElem?_eq_some_iff.mp hq).1
      rw [List.getElem?_append_left (by simp; omega), List.getElem?_take, if_pos (by omega)]
      exact h5 i q hq
    · obtain ⟨k, h6, h7⟩ := stay_mem rn nw qs bs hR.len i q b hq hb
      exact hR.rows k q b h6 h7
    · have hfl : ∀ (n : Nat) (x : FL), (fillRows none n x).length = x.length := by
        intro n
        induction n with
        | zero => intro x; rfl
        | succ n ih => intro x; cases x <;> simp [fillRows, ih]
      simp [hfl]; omega
end Go.Proofs.YtdgipcjigbagfaaGreat.AB
namespace Go.Proofs.YtdgipcjigbagfaaGreat.AB
set_option linter.unusedVariables false
set_option linter.unusedSimpArgs false

def M63 : Int := 9223372036854775807

/-- a sum of numbers that are not below nought -/
theorem madd_nn {a b : Int} (a0 : 0 ≤ a) (a1 : a ≤ M63) (b0 : 0 ≤ b) (b1 : b ≤ M63) : S.madd a b = if M63 < a + b then (M63, 2) else (a + b, 0) := by
  unfold M63 at *
  unfold S.madd S.mend
  by_cases hb : 0 < b
  · have hn : ¬ b < 0 := by omega
    rw [wrap_id (n := 9223372036854775807 - b) (by omega) (by omega)]
    by_cases hc : 9223372036854775807 - b < a
    · have : (9223372036854775807 : Int) < a + b := by omega
      simp [hb, hc, this]
    · have : ¬ (9223372036854775807 : Int) < a + b := by omega
      rw [wrap_id (n := a + b) (by omega) (by omega)]
      simp [hb, hc, hn, this]
  · have hn : ¬ b < 0 := by omega
    have : ¬ (9223372036854775807 : Int) < a + b := by omega
    rw [wrap_id (n := a + b) (by omega) (by omega)]
    simp [hb, hn, this]

/-! which bucket -/
theorem rix2_loop (fu : Nat) (l : FL) (f : BL) (lo : Nat) (a : Int) (qs : List Nat) (bs : List Bk) (hR : Rep l f lo qs bs) (hl : bs.length < 100000) :
    ∀ (n i : Nat), i ≤ bs.length → bs.length < n + i →
    S.rix2_l0 fu l f lo bs.length a n i = some (match (bs.drop i).findIdx? (fun b => decide (b.1 = a)) with | some j => .inl ((i + j : Nat) : Int) | none => .inr ((bs.length : Int), false)) := by
  intro n
  induction n with
  | zero => intro i _ _; omega
  | succ n ih =>
    intro i hi hn
    unfold S.rix2_l0
    by_cases c : i < bs.length
    · have g1 : ((i : Int) < ((bs.length : Nat) : Int)) := by omega
      have g2 : inB (i : Int) bs.length = true := by unfold inB; simp; omega
      obtain ⟨b, hb⟩ : ∃ b, bs[i]? = some b := ⟨bs[i]'c, by simp⟩
      obtain ⟨q, hq⟩ : ∃ q, qs[i]? = some q := ⟨qs[i]'(by rw [hR.len]; exact c), by simp⟩
      have g3 : l[Int.toNat (i : Int) + lo]? = some (some q) := by have := hR.cells i q hq; rw [Nat.add_comm] at this; simpa using this
      have hw : IntKind.wrap .i64 ((i : Int) + 1) = ((i + 1 : Nat) : Int) := by rw [wrap_id (by omega) (by omega)]; omega
      have hg : S.rhere l f q a = some (decide (b.1 = a)) := by unfold S.rhere; rw [hR.rows i q b hq hb]; rfl
      simp only [g1, g2, g3, decide_true, cond_true, optK, hg, hw]
      rw [List.drop_eq_getElem_cons c, List.findIdx?_cons]
      have hb' : bs[i] = b := by rw [List.getElem?_eq_getElem c] at hb; injection hb
      rw [hb']
      by_cases hgb : b.1 = a
      · simp [hgb]
      · simp only [hgb, decide_false, cond_false]
        rw [ih (i + 1) (by omega) (by omega)]
        cases hfi : (bs.drop (i + 1)).findIdx? (fun b => decide (b.1 = a)) with
        | none => simp
        | some j => simp; omega
    · have g1 : ¬ ((i : Int) < ((bs.length : Nat) : Int)) := by omega
      have hk2 : i = bs.length := by omega
      simp only [g1, decide_false, cond_false]
      rw [List.drop_eq_nil_of_le (by omega), hk2]; rfl

theorem rix2_eq (l : FL) (f : BL) (lo : Nat) (a : Int) (qs : List Nat) (bs : List Bk) (hR : Rep l f lo qs bs) (hl : bs.length < 90000) :
    S.rix2 100000 l f lo bs.length a = some (match bs.findIdx? (fun b => decide (b.1 = a)) with | some j => (j : Int) | none => -1) := by
  have e := rix2_loop 100000 l f lo a qs bs hR (by omega) 100000 0 (by omega) (by omega)
  have e' : S.rix2_l0 100000 l f lo bs.length a 100000 0 = _ := e
  unfold S.rix2
  rw [e', List.drop_zero]
  cases bs.findIdx? (fun b => decide (b.1 = a)) with
  | none => simp only [optK, Sum.elim_inr, S.rix2_a0_1]
  | some j => simp only [optK, Sum.elim_inl, S.rix2_a0_0, Nat.zero_add]

def addTo (b : Bk) (v : Int) : Bk := (b.1, (S.madd b.2.1 v).1, b.2.2.1 + 1, b.2.2.2 || !decide ((S.madd b.2.1 v).2 = 0))
def putB (a v : Int) : List Bk → List Bk
  | [] => [addTo (a, 0, 0, false) v]
  | b :: r => if b.1 = a then addTo b v :: r else b :: putB a v r

theorem putB_none (a v : Int) : ∀ (bs : List Bk), bs.findIdx? (fun b => decide (b.1 = a)) = none → putB a v bs = bs ++ [addTo (a, 0, 0, false) v]
  | [], _ => rfl
  | b :: bs, h => by
    rw [List.findIdx?_cons] at h
    by_cases hb : b.1 = a
    · simp [hb] at h
    · simp only [hb, decide_false, Bool.false_eq_true, if_false, Option.map_eq_none_iff] at h
      simp only [putB, hb, if_false, putB_none a v bs h, List.cons_append]
theorem putB_some (a v : Int) : ∀ (bs : List Bk) (j : Nat), bs.findIdx? (fun b => decide (b.1 = a)) = some j → ∃ b, bs[j]? = some b ∧ putB a v bs = bs.set j (addTo b v)
  | [], j, h => by simp at h
  | b :: bs, j, h => by
    rw [List.findIdx?_cons] at h
    by_cases hb : b.1 = a
    · simp [hb] at h; subst h
      exact ⟨b, rfl, by simp [putB, hb]⟩
    · simp only [hb, decide_false, Bool.false_eq_true, if_false] at h
      cases hf : bs.findIdx? (fun b => decide (b.1 = a)) with
      | none => simp [hf] at h
      | some k =>
        simp [hf] at h; subst h
        obtain ⟨b', h1, h2⟩ := putB_some a v bs k hf
        exact ⟨b', by simpa using h1, by simp [putB, hb, h2]⟩

/-- a ring's cells and what they lead to -/
def RepR (lo len : Nat) (l : FL) (f : BL) (bs : List Bk) : Prop := len = bs.length ∧ lo + bs.length ≤ l.length ∧ ∃ qs, Rep l f lo qs bs

theorem rep_nil : RepR 0 0 [] [] [] := ⟨rfl, by simp, [], ⟨rfl, by simp, by simp, List.nodup_nil⟩⟩

theorem rgo_eq {lo len : Nat} {l : FL} {f : BL} {bs : List Bk} (h : RepR lo len l f bs) (hA : AtOk bs) (hl : bs.length < 90000) (rw_ rg rn nw : Int) (ov : Bool) (w0 : -1 ≤ nw) (w1 : nw ≤ 1099511627776) :
    ∃ l', S.rgo l f lo len rw_ rg rn nw ov = some (lo, (keepB rn nw bs).length, rw_, rg, rn, nw, ov, l', f) ∧ RepR lo (keepB rn nw bs).length l' f (keepB rn nw bs) := by
  obtain ⟨rfl, hy, qs, hR⟩ := h
  obtain ⟨l', qs', e, hR', hl', _⟩ := rdel_eq l f lo lo bs.length rw_ rg rn nw ov w0 w1 qs bs hR hA hl hy
  refine ⟨l', ?_, rfl, ?_, qs', hR'⟩
  · unfold S.rgo; rw [e]; rfl
  · have := List.length_filter_le (fun b => !gone rn nw b) bs
    unfold keepB; omega

theorem Rep.set {l : FL} {f : BL} {lo : Nat} {qs : List Nat} {bs : List Bk} (h : Rep l f lo qs bs) {j q : Nat} {b' : Bk} (hq : qs[j]? = some q) (hf : q < f.length) : Rep l (f.set q b') lo qs (bs.set j b') := by
  refine ⟨by rw [List.length_set]; exact h.len, h.cells, fun i q' b hq' hb => ?_, h.nodup⟩
  rw [List.getElem?_set] at hb
  by_cases e : j = i
  · subst e
    rw [hq] at hq'; injection hq' with hq'; subst hq'
    rw [if_pos rfl] at hb
    split at hb
    · injection hb with hb; subst hb; simp [hf]
    · cases hb
  · rw [if_neg e] at hb
    have hne : q ≠ q' := by
      intro e2; subst e2
      have h1 := (List.getElem?_eq_some_iff.mp hq).1
      have h2 := (List.getElem?_eq_some_iff.mp hq').1
      exact e ((List.getElem?_inj h1 h.nodup).mp (hq.trans hq'.symm))
    rw [List.getElem?_set, if_neg hne]
    exact h.rows i q' b hq' hb

theorem Rep.snoc {l : FL} {f : BL} {lo : Nat} {qs : List Nat} {bs : List Bk} (h : Rep l f lo qs bs) (hy : lo + bs.length ≤ l.length) (b' : Bk) :
    Rep (cutL l lo bs.length ++ [some (0 + f.length)]) (f ++ [b']) 0 (qs ++ [f.length]) (bs ++ [b']) := by
  have hcl : (cutL l lo bs.length).length = bs.length := by unfold cutL; simp; omega
  have hlt : ∀ (i q : Nat), qs[i]? = some q → q < f.length := by
    intro i q hq
    have hi : i < bs.length := by rw [← h.len]; exact (List.getElem?_eq_some_iff.mp hq).1
    have := h.rows i q bs[i] hq (by simp [hi])
    exact (List.getElem?_eq_some_iff.mp this).1
  refine ⟨by simp [h.len], fun i q hq => ?_, fun i q b hq hb => ?_, ?_⟩
  · rw [List.getElem?_append] at hq
    rw [show 0 + i = i by omega, List.getElem?_append, hcl, ← h.len]
    split at hq
    · rename_i hi
      rw [if_pos hi]
      unfold cutL
      rw [List.getElem?_take, if_pos hi, List.getElem?_drop]
      exact h.cells i q hq
    · rename_i hi
      rw [if_neg hi]
      have : i - qs.length = 0 := by have := (List.getElem?_eq_some_iff.mp hq).1; simp at this; omega
      rw [this] at hq ⊢
      simp at hq; subst hq; simp
  · rw [List.getElem?_append] at hq hb
    rw [h.len] at hq
    split at hq
    · rename_i hi
      rw [if_pos hi] at hb
      rw [List.getElem?_append_left (hlt i q hq)]
      exact h.rows i q b hq hb
    · rename_i hi
      rw [if_neg hi] at hb
      have : i - bs.length = 0 := by have := (List.getElem?_eq_some_iff.mp hq).1; simp at this; omega
      rw [this] at hq hb
      simp at hq hb; subst hq; subst hb; simp
  · refine List.nodup_append.mpr ⟨h.nodup, by simp, fun x hx y hy2 e => ?_⟩
    simp at hy2
    obtain ⟨i, hi⟩ := List.getElem?_of_mem hx
    have := hlt i x hi; omega

theorem sn_get {α : Type} (f : List α) (b : α) : (f ++ [b])[0 + f.length]? = some b := by simp
theorem sn_set {α : Type} (f : List α) (b y : α) : (f ++ [b]).set (0 + f.length) y = f ++ [y] := by simp

/-- buckets whose numbers are small -/
def NOk (bs : List Bk) : Prop := ∀ b ∈ bs, 0 ≤ b.2.2.1 ∧ b.2.2.1 ≤ 1000000

theorem keepB_mem {n nw : Int} {bs : List Bk} {b : Bk} (h : b ∈ keepB n nw bs) : b ∈ bs ∧ ¬ n ≤ nw - b.1 := by
  unfold keepB at h
  obtain ⟨h1, h2⟩ := List.mem_filter.mp h
  unfold gone at h2
  exact ⟨h1, by simpa using h2⟩

theorem rp_yes {lo len : Nat} {l : FL} {f : BL} {bs : List Bk} (h : RepR lo len l f bs) (hA : AtOk bs) (hN : NOk bs) (hl : bs.length < 80000) {rg rn nw t v : Int} (rw_ : Int) (ov : Bool) (w0 : -1 ≤ nw) (w1 : nw ≤ 1099511627776)
    (g1 : 1 ≤ rg) (t0 : 0 ≤ t) (t1 : t ≤ 1099511627776) (v0 : 0 ≤ v) :
    ∃ lo' len' l' f', S.rp l f lo len rw_ rg rn nw ov t v = some (0, lo', len', rw_, rg, rn, (if t.tdiv rg > nw then t.tdiv rg else nw), ov, l', f') ∧
      RepR lo' len' l' f' (if rn ≤ (if t.tdiv rg > nw then t.tdiv rg else nw) - t.tdiv rg then keepB rn (if t.tdiv rg > nw then t.tdiv rg else nw) bs else putB (t.tdiv rg) v (keepB rn (if t.tdiv rg > nw then t.tdiv rg else nw) bs)) := by
  have htd := tdv t0 g1
  have hwa : IntKind.wrap .i64 (t.tdiv rg) = t.tdiv rg := wrap_id (by omega) (by omega)
  obtain ⟨a, ha⟩ : ∃ a, a = t.tdiv rg := ⟨_, rfl⟩
  rw [← ha] at htd hwa
  obtain ⟨m, hm⟩ : ∃ m, m = (if a > nw then a else nw) := ⟨_, rfl⟩
  have hm2 : a ≤ m ∧ nw ≤ m ∧ m ≤ 1099511627776 := by subst hm; split <;> omega
  have p1 : ¬ t < 0 := by omega
  have p2 : ¬ 1099511627776 < t := by omega
  have p3 : ¬ v < 0 := by omega
  have p4 : ¬ rg = 0 := by omega
  obtain ⟨l1, e1, h1⟩ := rgo_eq h hA (by omega) rw_ rg rn m ov (by omega) hm2.2.2
  obtain ⟨B, hB⟩ : ∃ B, B = keepB rn m bs := ⟨_, rfl⟩
  have hBl : B.length ≤ bs.length := by subst hB; exact List.length_filter_le _ _
  have hBA : AtOk B := fun b hb => hA b (by subst hB; exact (keepB_mem hb).1)
  have hBN : NOk B := fun b hb => hN b (by subst hB; exact (keepB_mem hb).1)
  rw [← hB] at e1 h1
  unfold S.rp
  rw [← ha]
  simp only [hwa, ← hm, p1, p2, p3, p4, decide_false, cond_false, e1, optK]
  rw [wrap_id (n := m - a) (by omega) (by omega), ← hB]
  by_cases c : rn ≤ m - a
  · simp only [c, decide_true, cond_true, if_true]
    exact ⟨_, _, _, _, rfl, h1⟩
  · obtain ⟨_, hy, qs, hR⟩ := h1
    simp only [c, decide_false, cond_false, if_false, rix2_eq l1 f lo a qs B hR (by omega)]
    cases hf : B.findIdx? (fun b => decide (b.1 = a)) with
    | none =>
      have c1 : (-1 : Int) < 0 := by omega
      have c2 : (Nat.beq 1 1 && Nat.blt 0 16 && Nat.beq 1 1 && Nat.beq 1 1 && Nat.beq 1 1 && true && !Nat.beq 1 4 && Nat.ble ((B.length + 1) * 16) 35184372088832) = true := by
        have : Nat.ble ((B.length + 1) * 16) 35184372088832 = true := Nat.ble_eq.mpr (by omega)
        rw [this]; rfl
      have hcl : (cutL l1 lo B.length).length = B.length := by unfold cutL; simp; omega
      have c3 : inB ((B.length : Nat) : Int) (cutL l1 lo B.length ++ [some (0 + f.length)]).length = true := by
        unfold inB; simp [hcl]; omega
      have c4 : (cutL l1 lo B.length ++ [some (0 + f.length)])[Int.toNat ((B.length : Nat) : Int) + 0]? = some (some (0 + f.length)) := by
        rw [Int.toNat_natCast, Nat.add_zero, List.getElem?_append_right (by omega), hcl, Nat.sub_self]; rfl
      have hsn := hR.snoc hy (addTo (a, 0, 0, false) v)
      simp only [c1, c2, c3, c4, decide_true, cond_true, sn_get, sn_set, cond_false]
      rw [wrap_id (n := 0 + 1) (by omega) (by omega)]
      refine ⟨_, _, _, _, rfl, ?_⟩
      rw [putB_none a v B hf]
      exact ⟨by simp [hcl], by simp [hcl], _, by simpa [addTo] using hsn⟩
    | some j =>
      obtain ⟨b, hb, hp⟩ := putB_some a v B j hf
      have hjl : j < B.length := (List.getElem?_eq_some_iff.mp hb).1
      have hbm := List.mem_of_getElem? hb
      obtain ⟨q, hq⟩ : ∃ q, qs[j]? = some q := ⟨qs[j]'(by rw [hR.len]; exact hjl), by simp⟩
      have hqf := hR.rows j q b hq hb
      have hql : q < f.length := (List.getElem?_eq_some_iff.mp hqf).1
      have c1 : ¬ ((j : Nat) : Int) < 0 := by omega
      have c2 : inB ((j : Nat) : Int) B.length = true := by unfold inB; simp; omega
      have c3 : l1[Int.toNat ((j : Nat) : Int) + lo]? = some (some q) := by have := hR.cells j q hq; rw [Nat.add_comm] at this; simpa using this
      have hss : ∀ y : Bk, (f.set q y)[q]? = some y := fun y => by simp [hql]
      have hnb := hBN b hbm
      rw [hp]
      refine ⟨lo, B.length, l1, f.set q (addTo b v), ?_, by simp, by simp; omega, qs, hR.set hq hql⟩
      simp only [c1, c2, c3, decide_false, cond_false, cond_true, optK, hqf, hss, List.set_set]
      rw [wrap_id (n := b.2.2.1 + 1) (by omega) (by omega)]
      unfold addTo
      cases hcut : b.2.2.2 <;> simp

theorem rp_no (l : FL) (f : BL) (lo len : Nat) (rw_ rg rn nw t v : Int) (ov : Bool) (h : ¬ Takes (t, v)) : S.rp l f lo len rw_ rg rn nw ov t v = some (1, lo, len, rw_, rg, rn, nw, ov, l, f) := by
  unfold S.rp
  by_cases p1 : t < 0
  · simp [p1]
  by_cases p2 : 1099511627776 < t
  · simp [p1, p2]
  by_cases p3 : v < 0
  · simp [p1, p2, p3]
  exact absurd ⟨⟨by simp only; omega, by simp only; omega⟩, by simp only; omega⟩ h

/-! what is summed -/
def inW (n last a : Int) : Bool := decide (a ≤ last ∧ last - a < n)
def sumS (n last : Int) : Int → Int → Bool → List Bk → Int × Int × Bool
  | s, c, ov, [] => (s, c, ov)
  | s, c, ov, b :: r => if inW n last b.1 = true then sumS n last (S.madd s b.2.1).1 (c + b.2.2.1) (ov || b.2.2.2 || !decide ((S.madd s b.2.1).2 = 0)) r else sumS n last s c ov r

theorem rs_loop (fu : Nat) (l : FL) (f : BL) (lo : Nat) (rw_ rg rn nw t : Int) (ov0 : Bool) (qs : List Nat) (bs : List Bk) (hR : Rep l f lo qs bs) (hA : AtOk bs) (hN : NOk bs) (hl : bs.length < 100000) (g1 : 1 ≤ rg) (t0 : 0 ≤ t) (t1 : t < 9223372036854775808) :
    ∀ (n i : Nat) (s c : Int) (ov : Bool), i ≤ bs.length → bs.length < n + i → 0 ≤ c → c ≤ i * 1000000 →
    S.rs_l0 fu l f lo bs.length rw_ rg rn nw ov0 t n s c i ov = some ((sumS rn (t.tdiv rg) s c ov (bs.drop i)).1, (sumS rn (t.tdiv rg) s c ov (bs.drop i)).2.1, (bs.length : Int), false, (sumS rn (t.tdiv rg) s c ov (bs.drop i)).2.2) := by
  have htd := tdv t0 g1
  have hwt : IntKind.wrap .i64 (t.tdiv rg) = t.tdiv rg := wrap_id (by omega) (by omega)
  intro n
  induction n with
  | zero => intro i s c ov _ _; omega
  | succ n ih =>
    intro i s c ov hi hn c0 c1
    unfold S.rs_l0
    by_cases c2 : i < bs.length
    · have g1 : ((i : Int) < ((bs.length : Nat) : Int)) := by omega
      have g2 : inB (i : Int) bs.length = true := by unfold inB; simp; omega
      obtain ⟨b, hb⟩ : ∃ b, bs[i]? = some b := ⟨bs[i]'c2, by simp⟩
      obtain ⟨q, hq⟩ : ∃ q, qs[i]? = some q := ⟨qs[i]'(by rw [hR.len]; exact c2), by simp⟩
      have g3 : l[Int.toNat (i : Int) + lo]? = some (some q) := by have := hR.cells i q hq; rw [Nat.add_comm] at this; simpa using this
      have hw : IntKind.wrap .i64 ((i : Int) + 1) = ((i + 1 : Nat) : Int) := by rw [wrap_id (by omega) (by omega)]; omega
      have hqf := hR.rows i q b hq hb
      have hbm := List.mem_of_getElem? hb
      have ha := hA b hbm
      have hnb := hN b hbm
      have hd : bs.drop i = b :: bs.drop (i + 1) := by
        rw [List.drop_eq_getElem_cons c2]; congr 1; rw [List.getElem?_eq_getElem c2] at hb; injection hb
      have hwd : IntKind.wrap .i64 (t.tdiv rg - b.1) = t.tdiv rg - b.1 := wrap_id (by omega) (by omega)
      have hwc : IntKind.wrap .i64 (c + b.2.2.1) = c + b.2.2.1 := wrap_id (by omega) (by omega)
      simp only [g1, g2, g3, decide_true, cond_true, optK, optC, hqf, hw, hwt, hwd, hwc]
      rw [hd]
      unfold sumS
      by_cases k1 : t.tdiv rg < b.1
      · have k : ¬ inW rn (t.tdiv rg) b.1 = true := by unfold inW; simp; omega
        simp only [k1, k, decide_true, cond_true, if_false]
        exact ih (i + 1) s c ov (by omega) (by omega) c0 (by omega)
      · by_cases k2 : rn ≤ t.tdiv rg - b.1
        · have k : ¬ inW rn (t.tdiv rg) b.1 = true := by unfold inW; simp; omega
          simp only [k1, k2, k, decide_true, decide_false, cond_true, cond_false, if_false]
          exact ih (i + 1) s c ov (by omega) (by omega) c0 (by omega)
        · have k : inW rn (t.tdiv rg) b.1 = true := by unfold inW; simp; omega
          simp only [k1, k2, k, decide_false, cond_false, if_true]
          have hih := fun (ov' : Bool) => ih (i + 1) (S.madd s b.2.1).1 (c + b.2.2.1) ov' (by omega) (by omega) (by omega) (by omega)
          cases ov with
          | true => simp only [cond_true, Bool.true_or]; exact hih true
          | false =>
            cases hcut : b.2.2.2 with
            | true => simp only [cond_true, cond_false, Bool.false_or, Bool.true_or]; exact hih true
            | false => simp only [cond_false, Bool.false_or]; exact hih _
    · have g1 : ¬ ((i : Int) < ((bs.length : Nat) : Int)) := by omega
      have hk2 : i = bs.length := by omega
      simp only [g1, decide_false, cond_false]
      rw [List.drop_eq_nil_of_le (by omega), hk2]; rfl

theorem rs_eq {lo len : Nat} {l : FL} {f : BL} {bs : List Bk} (h : RepR lo len l f bs) (hA : AtOk bs) (hN : NOk bs) (hl : bs.length < 90000) (rw_ rg rn nw t : Int) (ov : Bool) (g1 : 1 ≤ rg) (t0 : 0 ≤ t) (t1 : t < 9223372036854775808) :
    S.rs 100000 l f lo len rw_ rg rn nw ov t = some ((sumS rn (t.tdiv rg) 0 0 ov bs).1, (sumS rn (t.tdiv rg) 0 0 ov bs).2.1, lo, len, rw_, rg, rn, nw, (sumS rn (t.tdiv rg) 0 0 ov bs).2.2, l, f) := by
  obtain ⟨rfl, hy, qs, hR⟩ := h
  have p1 : ¬ t < 0 := by omega
  have p4 : ¬ rg = 0 := by omega
  have e := rs_loop 100000 l f lo rw_ rg rn nw t ov qs bs hR hA hN (by omega) g1 t0 t1 100000 0 0 0 ov (by omega) (by omega) (by omega) (by omega)
  have e' : S.rs_l0 100000 l f lo bs.length rw_ rg rn nw ov t 100000 0 0 0 ov = _ := e
  unfold S.rs
  simp only [p1, p4, decide_false, cond_false, e', List.drop_zero, optK, S.rs_a0_0]
theorem rs_neg (l : FL) (f : BL) (lo len : Nat) (rw_ rg rn nw t : Int) (ov : Bool) (h : t < 0) : S.rs 100000 l f lo len rw_ rg rn nw ov t = some (0, 0, lo, len, rw_, rg, rn, nw, ov, l, f) := by
  unfold S.rs
  simp [h]
end Go.Proofs.YtdgipcjigbagfaaGreat.AB
namespace Go.Proofs.YtdgipcjigbagfaaGreat.AB
set_option linter.unusedVariables false
set_option linter.unusedSimpArgs false

/-- more than 64 bits hold -/
def over (s : Int) : Bool := decide (M63 < s)

/-- what is put together of the records whose bucket is asked for -/
def wsum (wt : Int × Int → Int) (g : Int) (W : Int → Bool) : List (Int × Int) → Int
  | [] => 0
  | x :: r => (if W (bk g x) = true then wt x else 0) + wsum wt g W r
abbrev vs (g : Int) (W : Int → Bool) (R : List (Int × Int)) : Int := wsum (fun x => x.2) g W R
abbrev ns (g : Int) (W : Int → Bool) (R : List (Int × Int)) : Int := wsum (fun _ => 1) g W R
def at_ (a : Int) : Int → Bool := fun b => decide (b = a)

theorem wsum_append (wt : Int × Int → Int) (g : Int) (W : Int → Bool) : ∀ (R R' : List (Int × Int)), wsum wt g W (R ++ R') = wsum wt g W R + wsum wt g W R'
  | [], R' => by simp [wsum]
  | x :: R, R' => by simp only [List.cons_append, wsum, wsum_append wt g W R R']; omega
theorem wsum_congr (wt : Int × Int → Int) (g : Int) {W W' : Int → Bool} : ∀ {R : List (Int × Int)}, (∀ x ∈ R, W (bk g x) = W' (bk g x)) → wsum wt g W R = wsum wt g W' R
  | [], _ => rfl
  | x :: R, h => by
    simp only [wsum]
    rw [h x (by simp), wsum_congr wt g (fun y hy => h y (by simp [hy]))]
theorem wsum_filter (wt : Int × Int → Int) (g : Int) (W K : Int → Bool) : ∀ (R : List (Int × Int)), wsum wt g W (R.filter fun x => K (bk g x)) = wsum wt g (fun a => W a && K a) R
  | [] => rfl
  | x :: R => by
    have ih := wsum_filter wt g W K R
    rw [List.filter_cons]
    cases hk : K (bk g x) with
    | true => simp only [if_true, wsum, ih, hk, Bool.and_true]
    | false => simp only [Bool.false_eq_true, if_false, wsum, ih, hk, Bool.and_false]; simp
theorem wsum_nn {wt : Int × Int → Int} (g : Int) (W : Int → Bool) : ∀ {R : List (Int × Int)}, (∀ x ∈ R, 0 ≤ wt x) → 0 ≤ wsum wt g W R
  | [], _ => Int.le_refl _
  | x :: R, h => by
    have := wsum_nn g W (R := R) (fun y hy => h y (by simp [hy]))
    have h1 := h x (by simp)
    simp only [wsum]; split <;> omega
theorem ns_le (g : Int) (W : Int → Bool) : ∀ (R : List (Int × Int)), ns g W R ≤ R.length
  | [] => Int.le_refl _
  | x :: R => by
    have := ns_le g W R
    simp only [ns, wsum, List.length_cons] at this ⊢; split <;> omega
theorem ns_all (g : Int) : ∀ (R : List (Int × Int)), ns g (fun _ => true) R = R.length
  | [] => rfl
  | x :: R => by
    have := ns_all g R
    simp only [ns, wsum, List.length_cons, if_true] at this ⊢; omega
theorem wsum_zero {wt : Int × Int → Int} {g : Int} {W : Int → Bool} : ∀ {R : List (Int × Int)}, (∀ x ∈ R, W (bk g x) = false) → wsum wt g W R = 0
  | [], _ => rfl
  | x :: R, h => by
    simp only [wsum]
    rw [h x (by simp), wsum_zero (fun y hy => h y (by simp [hy]))]; simp
theorem ns_pos {g : Int} {W : Int → Bool} : ∀ {R : List (Int × Int)} {x : Int × Int}, x ∈ R → W (bk g x) = true → 1 ≤ ns g W R
  | [], x, h, _ => by cases h
  | y :: R, x, h, hw => by
    have hnn : 0 ≤ ns g W R := wsum_nn g W (fun _ _ => by omega)
    simp only [ns, wsum]
    rcases List.mem_cons.mp h with e | e
    · subst e; rw [if_pos hw]; simp only [ns] at hnn; omega
    · have := ns_pos e hw; simp only [ns] at this; split <;> omega

/-- what is put together of buckets -/
def bsum (h : Bk → Int) (W : Int → Bool) : List Bk → Int
  | [] => 0
  | b :: r => (if W b.1 = true then h b else 0) + bsum h W r
theorem bsum_add (h h' : Bk → Int) (W : Int → Bool) : ∀ (bs : List Bk), bsum (fun b => h b + h' b) W bs = bsum h W bs + bsum h' W bs
  | [] => rfl
  | b :: bs => by simp only [bsum, bsum_add h h' W bs]; split <;> omega
theorem bsum_zero (W : Int → Bool) : ∀ (bs : List Bk), bsum (fun _ => 0) W bs = 0
  | [] => rfl
  | b :: bs => by simp only [bsum, bsum_zero W bs]; split <;> rfl
theorem bsum_congr {h h' : Bk → Int} (W : Int → Bool) : ∀ {bs : List Bk}, (∀ b ∈ bs, h b = h' b) → bsum h W bs = bsum h' W bs
  | [], _ => rfl
  | b :: bs, e => by
    have h1 := bsum_congr W (h := h) (h' := h') (bs := bs) (fun b' hb => e b' (List.mem_cons_of_mem _ hb))
    simp only [bsum, e b (by simp), h1]
theorem bsum_ind_no (a c : Int) (W : Int → Bool) : ∀ (bs : List Bk), (∀ b ∈ bs, b.1 ≠ a) → bsum (fun b => if a = b.1 then c else 0) W bs = 0
  | [], _ => rfl
  | b :: bs, h => by
    have h1 := h b (by simp)
    simp only [bsum, bsum_ind_no a c W bs (fun b' hb => h b' (by simp [hb])), if_neg (Ne.symm h1)]
    split <;> rfl
theorem bsum_ind (a c : Int) (W : Int → Bool) : ∀ (bs : List Bk), (bs.map (·.1)).Nodup → (∃ b ∈ bs, b.1 = a) → bsum (fun b => if a = b.1 then c else 0) W bs = if W a = true then c else 0
  | [], _, h => by obtain ⟨b, hb, _⟩ := h; cases hb
  | b :: bs, hn, h => by
    rw [List.map_cons, List.nodup_cons] at hn
    simp only [bsum]
    by_cases e : b.1 = a
    · have hno : ∀ b' ∈ bs, b'.1 ≠ a := fun b' hb e' => hn.1 (List.mem_map.mpr ⟨b', hb, e'.trans e.symm⟩)
      rw [bsum_ind_no a c W bs hno, e]; simp
    · obtain ⟨b', hb, e'⟩ := h
      rcases List.mem_cons.mp hb with h1 | h1
      · subst h1; exact absurd e' e
      · rw [bsum_ind a c W bs hn.2 ⟨b', h1, e'⟩, if_neg (Ne.symm e)]; simp
/-- bucket by bucket, or record by record -/
theorem bsum_wsum (wt : Int × Int → Int) (g : Int) (W : Int → Bool) {bs : List Bk} (hn : (bs.map (·.1)).Nodup) : ∀ {R : List (Int × Int)}, (∀ x ∈ R, ∃ b ∈ bs, b.1 = bk g x) →
    bsum (fun b => wsum wt g (at_ b.1) R) W bs = wsum wt g W R
  | [], _ => bsum_zero W bs
  | x :: R, h => by
    simp only [wsum]
    rw [bsum_add (fun b => if at_ b.1 (bk g x) = true then wt x else 0), bsum_wsum wt g W hn (fun y hy => h y (by simp [hy]))]
    congr 1
    rw [← bsum_ind (bk g x) (wt x) W bs hn (h x (by simp))]
    refine bsum_congr W fun b _ => ?_
    unfold at_; simp

/-- records that a ring takes, as numbers of 64 bits -/
def Tk (x : Int × Int) : Prop := Takes x ∧ x.2 ≤ M63

/-- buckets that tell what was put -/
structure Same (g : Int) (bs : List Bk) (R : List (Int × Int)) : Prop where
  nd : (bs.map (·.1)).Nodup
  sum : ∀ b ∈ bs, b.2.1 = min M63 (vs g (at_ b.1) R)
  num : ∀ b ∈ bs, b.2.2.1 = ns g (at_ b.1) R
  cut : ∀ b ∈ bs, b.2.2.2 = over (vs g (at_ b.1) R)
  all : ∀ x ∈ R, ∃ b ∈ bs, b.1 = bk g x
  some_ : ∀ b ∈ bs, ∃ x ∈ R, bk g x = b.1

theorem Same.nil (g : Int) : Same g [] [] := ⟨List.nodup_nil, fun _ h => (by cases h), fun _ h => (by cases h), fun _ h => (by cases h), fun _ h => (by cases h), fun _ h => (by cases h)⟩

theorem Same.atOk {g : Int} {bs : List Bk} {R : List (Int × Int)} (h : Same g bs R) (g1 : 1 ≤ g) (ht : ∀ x ∈ R, Tk x) : AtOk bs := by
  intro b hb
  obtain ⟨x, hx, e⟩ := h.some_ b hb
  rw [← e]; exact bk_b g1 (ht x hx).1
theorem Same.nOk {g : Int} {bs : List Bk} {R : List (Int × Int)} (h : Same g bs R) (hl : R.length ≤ 1000000) : NOk bs := by
  intro b hb
  rw [h.num b hb]
  have := ns_le g (at_ b.1) R
  exact ⟨wsum_nn g _ (fun _ _ => by omega), by omega⟩
theorem Same.len {g : Int} {bs : List Bk} {R : List (Int × Int)} (h : Same g bs R) : bs.length ≤ R.length := by
  have h1 := bsum_wsum (fun _ => 1) g (fun _ => true) h.nd h.all
  have h2 := ns_all g R
  simp only [ns] at h2
  rw [h2] at h1
  have key : ∀ (l : List Bk), (∀ b ∈ l, b ∈ bs) → (l.length : Int) ≤ bsum (fun b => wsum (fun _ => 1) g (at_ b.1) R) (fun _ => true) l := by
    intro l
    induction l with
    | nil => intro _; exact Int.le_refl _
    | cons b l ih =>
      intro hm
      obtain ⟨x, hx, e⟩ := h.some_ b (hm b (by simp))
      have hp := ns_pos (g := g) (W := at_ b.1) hx (by unfold at_; simp [e])
      have := ih fun b' hb' => hm b' (by simp [hb'])
      simp only [ns] at hp
      simp only [bsum, List.length_cons, if_true]; omega
  have := key bs (fun _ h => h)
  omega

theorem Kp_eq (g n e : Int) : Kp g n e = fun x => (fun a => decide (e - a < n)) (bk g x) := rfl

theorem Same.forget {g : Int} {bs : List Bk} {R : List (Int × Int)} (h : Same g bs R) (n nw : Int) : Same g (keepB n nw bs) (R.filter (Kp g n nw)) := by
  have hw : ∀ (wt : Int × Int → Int) (b : Bk), ¬ n ≤ nw - b.1 → wsum wt g (at_ b.1) (R.filter (Kp g n nw)) = wsum wt g (at_ b.1) R := by
    intro wt b hb
    have e0 := wsum_filter wt g (at_ b.1) (fun a => decide (nw - a < n)) R
    have e1 : R.filter (Kp g n nw) = R.filter (fun x => (fun a => decide (nw - a < n)) (bk g x)) := rfl
    rw [e1, e0]
    refine wsum_congr wt g fun x _ => ?_
    unfold at_
    by_cases e : bk g x = b.1
    · have : nw - b.1 < n := by omega
      simp [e, this]
    · simp [e]
  refine ⟨h.nd.sublist ((List.filter_sublist).map _), fun b hb => ?_, fun b hb => ?_, fun b hb => ?_, fun x hx => ?_, fun b hb => ?_⟩
  · obtain ⟨h1, h2⟩ := keepB_mem hb
    simp only [vs]; rw [hw _ b h2]; exact h.sum b h1
  · obtain ⟨h1, h2⟩ := keepB_mem hb
    simp only [ns]; rw [hw _ b h2]; exact h.num b h1
  · obtain ⟨h1, h2⟩ := keepB_mem hb
    rw [h.cut b h1]; exact congrArg over (hw _ b h2).symm
  · obtain ⟨h1, h2⟩ := List.mem_filter.mp hx
    obtain ⟨b, hb, e⟩ := h.all x h1
    refine ⟨b, ?_, e⟩
    unfold Kp at h2
    have h2 := of_decide_eq_true h2
    unfold keepB gone
    exact List.mem_filter.mpr ⟨hb, by rw [e]; simp; omega⟩
  · obtain ⟨h1, h2⟩ := keepB_mem hb
    obtain ⟨x, hx, e⟩ := h.some_ b h1
    exact ⟨x, List.mem_filter.mpr ⟨hx, by unfold Kp; rw [e]; simp; omega⟩, e⟩

theorem putB_mem (a v : Int) : ∀ (bs : List Bk), (bs.map (·.1)).Nodup → ∀ b ∈ putB a v bs, (b ∈ bs ∧ b.1 ≠ a) ∨ (∃ b0 ∈ bs, b0.1 = a ∧ b = addTo b0 v) ∨ ((∀ b0 ∈ bs, b0.1 ≠ a) ∧ b = addTo (a, 0, 0, false) v)
  | [], _, b, h => by simp [putB] at h; exact .inr (.inr ⟨fun _ h => (by cases h), h⟩)
  | b0 :: bs, hn, b, h => by
    rw [List.map_cons, List.nodup_cons] at hn
    simp only [putB] at h
    by_cases e : b0.1 = a
    · rw [if_pos e] at h
      rcases List.mem_cons.mp h with h | h
      · exact .inr (.inl ⟨b0, by simp, e, h⟩)
      · exact .inl ⟨by simp [h], fun e' => hn.1 (List.mem_map.mpr ⟨b, h, e'.trans e.symm⟩)⟩
    · rw [if_neg e] at h
      rcases List.mem_cons.mp h with h | h
      · subst h; exact .inl ⟨by simp, e⟩
      · rcases putB_mem a v bs hn.2 b h with h1 | ⟨b1, h1, h2, h3⟩ | ⟨h1, h2⟩
        · exact .inl ⟨by simp [h1.1], h1.2⟩
        · exact .inr (.inl ⟨b1, by simp [h1], h2, h3⟩)
        · refine .inr (.inr ⟨fun b1 hb1 => ?_, h2⟩)
          rcases List.mem_cons.mp hb1 with hb1 | hb1
          · subst hb1; exact e
          · exact h1 b1 hb1
theorem putB_at (a v : Int) : ∀ (bs : List Bk), (putB a v bs).map (·.1) = if a ∈ bs.map (·.1) then bs.map (·.1) else bs.map (·.1) ++ [a]
  | [] => by simp [putB, addTo]
  | b :: bs => by
    simp only [putB]
    by_cases e : b.1 = a
    · rw [if_pos e]; simp [addTo, e]
    · rw [if_neg e, List.map_cons, putB_at a v bs]
      have : (a ∈ List.map (·.1) (b :: bs)) ↔ a ∈ bs.map (·.1) := by
        rw [List.map_cons, List.mem_cons]; exact ⟨fun h => h.resolve_left (Ne.symm e), .inr⟩
      by_cases h : a ∈ bs.map (·.1)
      · rw [if_pos h, if_pos (this.mpr h)]; rfl
      · rw [if_neg h, if_neg (fun q => h (this.mp q))]; rfl
theorem putB_old (a v : Int) : ∀ (bs : List Bk) (b : Bk), b ∈ bs → b.1 ≠ a → b ∈ putB a v bs
  | b0 :: bs, b, h, hne => by
    simp only [putB]
    by_cases e : b0.1 = a
    · rw [if_pos e]
      rcases List.mem_cons.mp h with h | h
      · subst h; exact absurd e hne
      · simp [h]
    · rw [if_neg e]
      rcases List.mem_cons.mp h with h | h
      · subst h; simp
      · simp [putB_old a v bs b h hne]

theorem addTo_ok {b : Bk} {v T : Int} (T0 : 0 ≤ T) (v0 : 0 ≤ v) (v1 : v ≤ M63) (hs : b.2.1 = min M63 T) (hc : b.2.2.2 = over (T)) :
    (addTo b v).2.1 = min M63 (T + v) ∧ (addTo b v).2.2.2 = over (T + v) := by
  have hM : (0 : Int) ≤ M63 := by unfold M63; omega
  unfold addTo over at *
  simp only
  rw [madd_nn (a := b.2.1) (b := v) (by rw [hs]; omega) (by rw [hs]; omega) v0 v1, hs, hc]
  by_cases h1 : M63 < T
  · have h2 : M63 < T + v := by omega
    by_cases h3 : M63 < min M63 T + v
    · simp [h1, h2, h3]; omega
    · simp [h1, h2, h3]; omega
  · by_cases h2 : M63 < T + v
    · have h3 : M63 < min M63 T + v := by omega
      simp [h1, h2, h3]; omega
    · have h3 : ¬ M63 < min M63 T + v := by omega
      simp [h1, h2, h3]; omega

theorem Same.put {g : Int} {bs : List Bk} {R : List (Int × Int)} (h : Same g bs R) {x : Int × Int} (hx : Tk x) (hR : ∀ y ∈ R, Tk y) : Same g (putB (bk g x) x.2 bs) (R ++ [x]) := by
  have hvn : ∀ a, 0 ≤ vs g (at_ a) R := fun a => wsum_nn g _ (fun y hy => (hR y hy).1.2)
  have hM : (0 : Int) ≤ M63 := by unfold M63; omega
  have hsn : ∀ (wt : Int × Int → Int) (a : Int), wsum wt g (at_ a) (R ++ [x]) = wsum wt g (at_ a) R + (if bk g x = a then wt x else 0) := by
    intro wt a; rw [wsum_append]; simp [wsum, at_]
  have hv0 : ∀ (wt : Int × Int → Int), (∀ b0 ∈ bs, b0.1 ≠ bk g x) → wsum wt g (at_ (bk g x)) R = 0 := by
    intro wt hno
    refine wsum_zero fun y hy => ?_
    obtain ⟨b, hb, e⟩ := h.all y hy
    have := hno b hb
    unfold at_; simp; intro e2; exact this (e.trans e2)
  have hcase := putB_mem (bk g x) x.2 bs h.nd
  refine ⟨?_, fun b hb => ?_, fun b hb => ?_, fun b hb => ?_, fun y hy => ?_, fun b hb => ?_⟩
  · rw [putB_at]
    split
    · exact h.nd
    · rename_i hno
      exact List.nodup_append.mpr ⟨h.nd, by simp, fun a ha b hb e => by simp at hb; subst hb; subst e; exact hno ha⟩
  · simp only [vs]; rw [hsn]
    rcases hcase b hb with ⟨h1, h2⟩ | ⟨b0, h1, h2, rfl⟩ | ⟨h1, rfl⟩
    · rw [if_neg (Ne.symm h2), Int.add_zero]; exact h.sum b h1
    · rw [show (addTo b0 x.2).1 = bk g x from h2, if_pos rfl, (addTo_ok (hvn b0.1) hx.1.2 hx.2 (h.sum b0 h1) (h.cut b0 h1)).1, h2]
    · rw [show (addTo (bk g x, 0, 0, false) x.2).1 = bk g x from rfl, if_pos rfl, (addTo_ok (T := 0) (by omega) hx.1.2 hx.2 (by simp; omega) (by unfold over; simp; omega)).1, hv0 _ h1]
  · simp only [ns]; rw [hsn]
    rcases hcase b hb with ⟨h1, h2⟩ | ⟨b0, h1, h2, rfl⟩ | ⟨h1, rfl⟩
    · rw [if_neg (Ne.symm h2), Int.add_zero]; exact h.num b h1
    · rw [show (addTo b0 x.2).1 = bk g x from h2, if_pos rfl, ← h2]
      show b0.2.2.1 + 1 = _
      rw [h.num b0 h1]
    · rw [show (addTo (bk g x, 0, 0, false) x.2).1 = bk g x from rfl, if_pos rfl, hv0 _ h1]; rfl
  · simp only [vs]; rw [hsn]
    rcases hcase b hb with ⟨h1, h2⟩ | ⟨b0, h1, h2, rfl⟩ | ⟨h1, rfl⟩
    · rw [if_neg (Ne.symm h2), Int.add_zero]; exact h.cut b h1
    · rw [show (addTo b0 x.2).1 = bk g x from h2, if_pos rfl, (addTo_ok (hvn b0.1) hx.1.2 hx.2 (h.sum b0 h1) (h.cut b0 h1)).2, h2]
    · rw [show (addTo (bk g x, 0, 0, false) x.2).1 = bk g x from rfl, if_pos rfl, (addTo_ok (T := 0) (by omega) hx.1.2 hx.2 (by simp; omega) (by unfold over; simp; omega)).2, hv0 _ h1]
  · have hat : ∀ a, a ∈ (putB (bk g x) x.2 bs).map (·.1) → ∃ b ∈ putB (bk g x) x.2 bs, b.1 = a := by
      intro a ha
      obtain ⟨b, hb, e⟩ := List.mem_map.mp ha
      exact ⟨b, hb, e⟩
    apply hat
    rw [putB_at]
    rcases List.mem_append.mp hy with hy | hy
    · obtain ⟨b, hb, e⟩ := h.all y hy
      have : bk g y ∈ bs.map (·.1) := List.mem_map.mpr ⟨b, hb, e⟩
      split
      · exact this
      · exact List.mem_append.mpr (.inl this)
    · simp at hy; subst hy
      split
      · assumption
      · simp
  · rcases hcase b hb with ⟨h1, h2⟩ | ⟨b0, h1, h2, rfl⟩ | ⟨h1, rfl⟩
    · obtain ⟨y, hy, e⟩ := h.some_ b h1
      exact ⟨y, List.mem_append.mpr (.inl hy), e⟩
    · exact ⟨x, by simp, h2.symm⟩
    · exact ⟨x, by simp, rfl⟩

/-- the sum over buckets -/
theorem sumS_eq (n last : Int) (T : Bk → Int) : ∀ (bs : List Bk), (∀ b ∈ bs, 0 ≤ T b ∧ b.2.1 = min M63 (T b) ∧ b.2.2.2 = over (T b)) → ∀ (Q c : Int) (ov : Bool), 0 ≤ Q →
    sumS n last (min M63 Q) c (ov || over (Q)) bs = (min M63 (Q + bsum T (inW n last) bs), c + bsum (fun b => b.2.2.1) (inW n last) bs, ov || over (Q + bsum T (inW n last) bs))
  | [], _, Q, c, ov, _ => by simp [sumS, bsum]
  | b :: bs, h, Q, c, ov, Q0 => by
    have hM : (0 : Int) ≤ M63 := by unfold M63; omega
    obtain ⟨t0, t1, t2⟩ := h b (by simp)
    have ih := sumS_eq n last T bs (fun b' hb => h b' (by simp [hb]))
    simp only [sumS, bsum]
    by_cases k : inW n last b.1 = true
    · rw [if_pos k, if_pos k, if_pos k]
      have hm := madd_nn (a := min M63 Q) (b := b.2.1) (by omega) (by omega) (by rw [t1]; omega) (by rw [t1]; omega)
      have e1 : (S.madd (min M63 Q) b.2.1).1 = min M63 (Q + T b) := by
        rw [hm, t1]; split <;> simp only <;> omega
      have e2 : (ov || over (Q) || b.2.2.2 || !decide ((S.madd (min M63 Q) b.2.1).2 = 0)) = (ov || over (Q + T b)) := by
        rw [hm, t1, t2]
        unfold over
        by_cases h1 : M63 < Q
        · have h2 : M63 < Q + T b := by omega
          simp [h1, h2]
        · by_cases h2 : M63 < T b
          · have h3 : M63 < Q + T b := by omega
            simp [h1, h2, h3]
          · by_cases h3 : M63 < Q + T b
            · have h4 : M63 < min M63 Q + min M63 (T b) := by omega
              simp [h1, h2, h3, h4]
            · have h4 : ¬ M63 < min M63 Q + min M63 (T b) := by omega
              simp [h1, h2, h3, h4]
      rw [e1, e2, ih (Q + T b) (c + b.2.2.1) ov (by omega)]
      rw [Int.add_assoc, Int.add_assoc]
    · rw [if_neg k, if_neg k, if_neg k, ih Q c ov Q0]
      simp
end Go.Proofs.YtdgipcjigbagfaaGreat.AB
namespace Go.Proofs.YtdgipcjigbagfaaGreat.AB
set_option linter.unusedVariables false
set_option linter.unusedSimpArgs false

/-- a ring's cells tell the records that are kept -/
structure PRel (g n nw : Int) (R : List (Int × Int)) (lo len : Nat) (l : FL) (f : BL) : Prop where
  bs : ∃ bs, RepR lo len l f bs ∧ Same g bs R
  tk : ∀ x ∈ R, Tk x
  near : ∀ x ∈ R, nw - bk g x < n

theorem PRel.nil (g n nw : Int) : PRel g n nw [] 0 0 [] [] := ⟨⟨[], rep_nil, Same.nil g⟩, fun _ h => (by cases h), fun _ h => (by cases h)⟩

/-- the newest bucket, behind a record -/
def pnw (g nw : Int) (x : Int × Int) : Int := if bk g x > nw then bk g x else nw
/-- what is kept, behind a record -/
def pR (g n nw : Int) (x : Int × Int) (R : List (Int × Int)) : List (Int × Int) := if nw - bk g x < n then (R ++ [x]).filter (Kp g n (pnw g nw x)) else R

theorem pnw_b {g nw : Int} {x : Int × Int} (g1 : 1 ≤ g) (hx : Takes x) (w0 : -1 ≤ nw) (w1 : nw ≤ 1099511627776) : -1 ≤ pnw g nw x ∧ pnw g nw x ≤ 1099511627776 ∧ nw ≤ pnw g nw x ∧ bk g x ≤ pnw g nw x := by
  have := bk_b g1 hx
  unfold pnw; split <;> omega
theorem pR_len (g n nw : Int) (x : Int × Int) (R : List (Int × Int)) : (pR g n nw x R).length ≤ R.length + 1 := by
  unfold pR
  split
  · have := List.length_filter_le (Kp g n (pnw g nw x)) (R ++ [x]); rw [List.length_append, List.length_singleton] at this; exact this
  · omega
theorem pR_tk {g n nw : Int} {x : Int × Int} {R : List (Int × Int)} (hR : ∀ y ∈ R, Tk y) (hx : Tk x) : ∀ y ∈ pR g n nw x R, Tk y := by
  intro y hy
  unfold pR at hy
  split at hy
  · have := (List.mem_filter.mp hy).1
    rcases List.mem_append.mp this with h | h
    · exact hR y h
    · simp at h; subst h; exact hx
  · exact hR y hy

theorem PRel.near' {g n nw : Int} {R : List (Int × Int)} {lo len : Nat} {l : FL} {f : BL} (h : PRel g n nw R lo len l f) : R.filter (Kp g n nw) = R := by
  refine List.filter_eq_self.mpr fun x hx => ?_
  have := h.near x hx
  unfold Kp; simp [this]

/-- keeping is asked for again -/
theorem keepB_id {g n nw : Int} {bs : List Bk} {R : List (Int × Int)} (h : Same g bs R) (hn : ∀ x ∈ R, nw - bk g x < n) : keepB n nw bs = bs := by
  unfold keepB gone
  refine List.filter_eq_self.mpr fun b hb => ?_
  obtain ⟨x, hx, e⟩ := h.some_ b hb
  have := hn x hx
  rw [e] at this
  simp; omega

theorem rp_ok {w g nw : Int} {R : List (Int × Int)} {lo len : Nat} {l : FL} {f : BL} (h : PRel g (NB w g) nw R lo len l f) (hw : Rok w g) (w0 : -1 ≤ nw) (w1 : nw ≤ 1099511627776) {x : Int × Int} (hx : Tk x) (hl : R.length ≤ 70000) (ov : Bool) :
    ∃ lo' len' l' f', S.rp l f lo len w g (NB w g) nw ov x.1 x.2 = some (0, lo', len', w, g, NB w g, pnw g nw x, ov, l', f') ∧ PRel g (NB w g) (pnw g nw x) (pR g (NB w g) nw x R) lo' len' l' f' := by
  obtain ⟨⟨g1, gw⟩, w6⟩ := hw
  obtain ⟨bs, hrep, hs⟩ := h.bs
  have hN := NB_b g1 gw w6
  have hbl := hs.len
  obtain ⟨lo', len', l', f', e, hr⟩ := rp_yes hrep (hs.atOk g1 h.tk) (hs.nOk (by omega)) (by omega) (rn := NB w g) (t := x.1) (v := x.2) w ov w0 w1 g1 hx.1.1.1 hx.1.1.2 hx.1.2
  have hb := pnw_b (nw := nw) g1 hx.1 w0 w1
  have epn : (if x.1.tdiv g > nw then x.1.tdiv g else nw) = pnw g nw x := rfl
  rw [epn] at e hr
  refine ⟨lo', len', l', f', e, ?_⟩
  have ebk : x.1.tdiv g = bk g x := rfl
  rw [ebk] at hr
  by_cases c : nw - bk g x < NB w g
  · have c2 : ¬ NB w g ≤ pnw g nw x - bk g x := by unfold pnw; split <;> omega
    rw [if_neg c2] at hr
    have hkx : Kp g (NB w g) (pnw g nw x) x = true := by unfold Kp; simp; omega
    have epR : pR g (NB w g) nw x R = R.filter (Kp g (NB w g) (pnw g nw x)) ++ [x] := by
      unfold pR; rw [if_pos c, List.filter_append]; simp [hkx]
    refine ⟨⟨_, hr, ?_⟩, pR_tk h.tk hx, fun y hy => ?_⟩
    · rw [epR]
      exact (hs.forget (NB w g) (pnw g nw x)).put hx (fun y hy => h.tk y (List.mem_filter.mp hy).1)
    · rw [epR] at hy
      rcases List.mem_append.mp hy with hy | hy
      · have := (List.mem_filter.mp hy).2; unfold Kp at this; simpa using this
      · simp at hy; subst hy; omega
  · have epw : pnw g nw x = nw := by unfold pnw; rw [if_neg (by omega)]
    have epR : pR g (NB w g) nw x R = R := by unfold pR; rw [if_neg c]
    rw [epw] at hr ⊢
    rw [epR]
    rw [if_pos (by omega), keepB_id hs h.near] at hr
    exact ⟨⟨bs, hr, hs⟩, h.tk, h.near⟩

/-- into a ring of nothing -/
theorem rs_ok {g n nw : Int} {R : List (Int × Int)} {lo len : Nat} {l : FL} {f : BL} (h : PRel g n nw R lo len l f) (g1 : 1 ≤ g) (hl : R.length ≤ 70000) (rw_ : Int) (ov : Bool) {t : Int} (t0 : 0 ≤ t) (t1 : t < 9223372036854775808) :
    S.rs 100000 l f lo len rw_ g n nw ov t = some (min M63 (vs g (inW n (t.tdiv g)) R), ns g (inW n (t.tdiv g)) R, lo, len, rw_, g, n, nw, ov || over (vs g (inW n (t.tdiv g)) R), l, f) := by
  obtain ⟨bs, hrep, hs⟩ := h.bs
  have hbl := hs.len
  rw [rs_eq hrep (hs.atOk g1 h.tk) (hs.nOk (by omega)) (by omega) rw_ g n nw t ov g1 t0 t1]
  have hM : (0 : Int) ≤ M63 := by unfold M63; omega
  have e0 : over 0 = false := by unfold over M63; rfl
  have key := sumS_eq n (t.tdiv g) (fun b => vs g (at_ b.1) R) bs (fun b hb => ⟨wsum_nn g _ (fun y hy => (h.tk y hy).1.2), hs.sum b hb, hs.cut b hb⟩) 0 0 ov (Int.le_refl _)
  rw [show min M63 0 = 0 by omega, e0, Bool.or_false, Int.zero_add, Int.zero_add] at key
  rw [key]
  have e1 : bsum (fun b => vs g (at_ b.1) R) (inW n (t.tdiv g)) bs = vs g (inW n (t.tdiv g)) R := bsum_wsum (fun x => x.2) g _ hs.nd hs.all
  have e2 : bsum (fun b => b.2.2.1) (inW n (t.tdiv g)) bs = ns g (inW n (t.tdiv g)) R := by
    exact (bsum_congr _ fun b hb => hs.num b hb).trans (bsum_wsum (fun _ => 1) g (inW n (t.tdiv g)) hs.nd hs.all)
  rw [e1, e2]

/-- the mean -/
def meanOf (s c : Int) : Int := if c = 0 then 0 else s.tdiv c
theorem meanOf_b {s c : Int} (s0 : 0 ≤ s) (s1 : s ≤ M63) (c0 : 0 ≤ c) : 0 ≤ meanOf s c ∧ meanOf s c ≤ M63 := by
  unfold meanOf
  split
  · unfold M63; omega
  · have := tdv (a := s) (g := c) s0 (by omega); omega
theorem rm_ok {g n nw : Int} {R : List (Int × Int)} {lo len : Nat} {l : FL} {f : BL} (h : PRel g n nw R lo len l f) (g1 : 1 ≤ g) (hl : R.length ≤ 70000) (rw_ : Int) (ov : Bool) {t : Int} (t0 : 0 ≤ t) (t1 : t < 9223372036854775808) :
    S.rm l f lo len rw_ g n nw ov t = some (meanOf (min M63 (vs g (inW n (t.tdiv g)) R)) (ns g (inW n (t.tdiv g)) R), lo, len, rw_, g, n, nw, ov || over (vs g (inW n (t.tdiv g)) R), l, f) := by
  have hM : (0 : Int) ≤ M63 := by unfold M63; omega
  have hv : 0 ≤ vs g (inW n (t.tdiv g)) R := wsum_nn g _ (fun y hy => (h.tk y hy).1.2)
  have hc : 0 ≤ ns g (inW n (t.tdiv g)) R := wsum_nn g _ (fun _ _ => by omega)
  unfold S.rm
  rw [rs_ok h g1 hl rw_ ov t0 t1]
  simp only [optK]
  by_cases c : ns g (inW n (t.tdiv g)) R = 0
  · simp only [c, decide_true, cond_true, meanOf, if_true]
  · have := meanOf_b (s := min M63 (vs g (inW n (t.tdiv g)) R)) (c := ns g (inW n (t.tdiv g)) R) (by omega) (by omega) hc
    simp only [c, decide_false, cond_false]
    unfold meanOf at this ⊢
    rw [if_neg c] at this ⊢
    unfold M63 at this
    rw [wrap_id (by unfold M63; omega) (by unfold M63; omega)]
theorem rm_neg (l : FL) (f : BL) (lo len : Nat) (rw_ rg rn nw t : Int) (ov : Bool) (h : t < 0) : S.rm l f lo len rw_ rg rn nw ov t = some (0, lo, len, rw_, rg, rn, nw, ov, l, f) := by
  unfold S.rm; rw [rs_neg l f lo len rw_ rg rn nw t ov h]; rfl

theorem nb_eq {w g : Int} (g1 : 1 ≤ g) (gw : g ≤ w) (w1 : w ≤ 600) : S.pbuckets w g = some (NB w g) := by
  have h := NB_b g1 gw w1
  have z : ¬ g = 0 := by omega
  unfold S.pbuckets
  rw [wrap_id (n := w + g) (by omega) (by omega), wrap_id (n := w + g - 1) (by omega) (by omega), wrap_id (n := (w + g - 1).tdiv g) (by unfold NB at h; omega) (by unfold NB at h; omega)]
  simp only [z, decide_false, cond_false]; rfl

theorem new_no {w g : Int} (h : ¬ Rok w g) : S.pring w g = some (.inl ()) := by
  unfold S.pring
  by_cases a : w < 1
  · simp only [a, decide_true, cond_true]
  by_cases b : 600 < w
  · simp only [a, b, decide_true, decide_false, cond_true, cond_false]
  by_cases c : g < 1
  · simp only [a, b, c, decide_true, decide_false, cond_true, cond_false]
  by_cases d : w < g
  · simp only [a, b, c, d, decide_true, decide_false, cond_true, cond_false]
  exact absurd ⟨⟨by omega, by omega⟩, by omega⟩ h
theorem new_yes {w g : Int} (h : Rok w g) : S.pring w g = some (.inr (w, g, NB w g)) := by
  obtain ⟨⟨h1, h2⟩, h3⟩ := h
  unfold S.pring
  have a : ¬ w < 1 := by omega
  have b : ¬ 600 < w := by omega
  have c : ¬ g < 1 := by omega
  have d : ¬ w < g := by omega
  simp only [a, b, c, d, decide_false, cond_false, nb_eq h1 h2 h3, optK]
end Go.Proofs.YtdgipcjigbagfaaGreat.AB
namespace Go.Proofs.YtdgipcjigbagfaaGreat.AB
set_option linter.unusedVariables false
set_option linter.unusedSimpArgs false

theorem um (x : Int) {m : Int} (h : 0 < m) (h2 : m ≤ 4611686018427387904) : ∃ k, IntKind.wrap .i64 (Int.tmod (IntKind.wrap .u64 x) m) = k ∧ 0 ≤ k ∧ k < m := by
  obtain ⟨h0, h1⟩ := umod_range x m h
  exact ⟨_, wrap_id (by omega) (by omega), h0, h1⟩
theorem wrap_u {n : Int} (h0 : 0 ≤ n) (h1 : n < 18446744073709551616) : IntKind.wrap .u64 n = n := by rw [IntKind.wrap_u64]; omega
theorem mk_tk {t v : Int} (t0 : 0 ≤ t) (t1 : t ≤ 1099511627776) (v0 : 0 ≤ v) (v1 : v ≤ M63) : Tk (t, v) := ⟨⟨⟨t0, t1⟩, v0⟩, v1⟩
theorem pR_mem {g n nw : Int} {x : Int × Int} {R : List (Int × Int)} {y : Int × Int} (h : y ∈ pR g n nw x R) : y ∈ R ∨ y = x := by
  unfold pR at h
  split at h
  · have := (List.mem_filter.mp h).1
    rcases List.mem_append.mp this with h | h
    · exact .inl h
    · simp at h; exact .inr h
  · exact .inl h
theorem pR_all {g n nw V : Int} {x : Int × Int} {R : List (Int × Int)} (h : ∀ y ∈ R, y.2 ≤ V) (hx : x.2 ≤ V) : ∀ y ∈ pR g n nw x R, y.2 ≤ V := by
  intro y hy
  rcases pR_mem hy with h1 | h1
  · exact h y h1
  · subst h1; exact hx
end Go.Proofs.YtdgipcjigbagfaaGreat.AB
