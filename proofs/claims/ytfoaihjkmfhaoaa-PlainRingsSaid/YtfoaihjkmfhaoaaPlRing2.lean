/- Rings: what putting, summing, resizing come to, bucket by bucket. -/
import Derived.Test.YtfoaihjkmfhaoaaPlRing
namespace Go.Proofs.Ytfoaihjkmfhaoaa.AB
set_option linter.unusedVariables false
set_option linter.unusedSimpArgs false

def M63 : Int := 9223372036854775807

/-- a sum of numbers that are not below nought -/
theorem madd_nn {a b : Int} (a0 : 0 ≤ a) (a1 : a ≤ M63) (b0 : 0 ≤ b) (b1 : b ≤ M63) : S.madd a b = if M63 < a + b then (M63, 2) else (a + b, 0) := by
  unfold M63 at *
  unfold S.madd S.mend
  by_cases hb : 0 < b
  · have hn : ¬ b < 0 := by omega
    rw [wrap_id (n := 9223372036854775807 - b) (by omega) (by omega)]
    by_cases hc : 9223372036854775807 - b < a
    · have : (9223372036854775807 : Int) < a + b := by omega
      simp [hb, hc, this]
    · have : ¬ (9223372036854775807 : Int) < a + b := by omega
      rw [wrap_id (n := a + b) (by omega) (by omega)]
      simp [hb, hc, hn, this]
  · have hn : ¬ b < 0 := by omega
    have : ¬ (9223372036854775807 : Int) < a + b := by omega
    rw [wrap_id (n := a + b) (by omega) (by omega)]
    simp [hb, hn, this]

/-! which bucket -/
theorem rix2_loop (fu : Nat) (l : FL) (f : BL) (lo : Nat) (a : Int) (qs : List Nat) (bs : List Bk) (hR : Rep l f lo qs bs) (hl : bs.length < 100000) :
    ∀ (n i : Nat), i ≤ bs.length → bs.length < n + i →
    S.rix2_l0 fu l f lo bs.length a n i = some (match (bs.drop i).findIdx? (fun b => decide (b.1 = a)) with | some j => .inl ((i + j : Nat) : Int) | none => .inr ((bs.length : Int), false)) := by
  intro n
  induction n with
  | zero => intro i _ _; omega
  | succ n ih =>
    intro i hi hn
    unfold S.rix2_l0
    by_cases c : i < bs.length
    · have g1 : ((i : Int) < ((bs.length : Nat) : Int)) := by omega
      have g2 : inB (i : Int) bs.length = true := by unfold inB; simp; omega
      obtain ⟨b, hb⟩ : ∃ b, bs[i]? = some b := ⟨bs[i]'c, by simp⟩
      obtain ⟨q, hq⟩ : ∃ q, qs[i]? = some q := ⟨qs[i]'(by rw [hR.len]; exact c), by simp⟩
      have g3 : l[Int.toNat (i : Int) + lo]? = some (some q) := by have := hR.cells i q hq; rw [Nat.add_comm] at this; simpa using this
      have hw : IntKind.wrap .i64 ((i : Int) + 1) = ((i + 1 : Nat) : Int) := by rw [wrap_id (by omega) (by omega)]; omega
      have hg : S.rhere l f q a = some (decide (b.1 = a)) := by unfold S.rhere; rw [hR.rows i q b hq hb]; rfl
      simp only [g1, g2, g3, decide_true, cond_true, optK, hg, hw]
      rw [List.drop_eq_getElem_cons c, List.findIdx?_cons]
      have hb' : bs[i] = b := by rw [List.getElem?_eq_getElem c] at hb; injection hb
      rw [hb']
      by_cases hgb : b.1 = a
      · simp [hgb]
      · simp only [hgb, decide_false, cond_false]
        rw [ih (i + 1) (by omega) (by omega)]
        cases hfi : (bs.drop (i + 1)).findIdx? (fun b => decide (b.1 = a)) with
        | none => simp
        | some j => simp; omega
    · have g1 : ¬ ((i : Int) < ((bs.length : Nat) : Int)) := by omega
      have hk2 : i = bs.length := by omega
      simp only [g1, decide_false, cond_false]
      rw [List.drop_eq_nil_of_le (by omega), hk2]; rfl

theorem rix2_eq (l : FL) (f : BL) (lo : Nat) (a : Int) (qs : List Nat) (bs : List Bk) (hR : Rep l f lo qs bs) (hl : bs.length < 90000) :
    S.rix2 100000 l f lo bs.length a = some (match bs.findIdx? (fun b => decide (b.1 = a)) with | some j => (j : Int) | none => -1) := by
  have e := rix2_loop 100000 l f lo a qs bs hR (by omega) 100000 0 (by omega) (by omega)
  have e' : S.rix2_l0 100000 l f lo bs.length a 100000 0 = _ := e
  unfold S.rix2
  rw [e', List.drop_zero]
  cases bs.findIdx? (fun b => decide (b.1 = a)) with
  | none => simp only [optK, Sum.elim_inr, S.rix2_a0_1]
  | some j => simp only [optK, Sum.elim_inl, S.rix2_a0_0, Nat.zero_add]

def addTo (b : Bk) (v : Int) : Bk := (b.1, (S.madd b.2.1 v).1, b.2.2.1 + 1, b.2.2.2 || !decide ((S.madd b.2.1 v).2 = 0))
def putB (a v : Int) : List Bk → List Bk
  | [] => [addTo (a, 0, 0, false) v]
  | b :: r => if b.1 = a then addTo b v :: r else b :: putB a v r

theorem putB_none (a v : Int) : ∀ (bs : List Bk), bs.findIdx? (fun b => decide (b.1 = a)) = none → putB a v bs = bs ++ [addTo (a, 0, 0, false) v]
  | [], _ => rfl
  | b :: bs, h => by
    rw [List.findIdx?_cons] at h
    by_cases hb : b.1 = a
    · simp [hb] at h
    · simp only [hb, decide_false, Bool.false_eq_true, if_false, Option.map_eq_none_iff] at h
      simp only [putB, hb, if_false, putB_none a v bs h, List.cons_append]
theorem putB_some (a v : Int) : ∀ (bs : List Bk) (j : Nat), bs.findIdx? (fun b => decide (b.1 = a)) = some j → ∃ b, bs[j]? = some b ∧ putB a v bs = bs.set j (addTo b v)
  | [], j, h => by simp at h
  | b :: bs, j, h => by
    rw [List.findIdx?_cons] at h
    by_cases hb : b.1 = a
    · simp [hb] at h; subst h
      exact ⟨b, rfl, by simp [putB, hb]⟩
    · simp only [hb, decide_false, Bool.false_eq_true, if_false] at h
      cases hf : bs.findIdx? (fun b => decide (b.1 = a)) with
      | none => simp [hf] at h
      | some k =>
        simp [hf] at h; subst h
        obtain ⟨b', h1, h2⟩ := putB_some a v bs k hf
        exact ⟨b', by simpa using h1, by simp [putB, hb, h2]⟩

/-- a ring's cells and what they lead to -/
def RepR (lo len : Nat) (l : FL) (f : BL) (bs : List Bk) : Prop := len = bs.length ∧ lo + bs.length ≤ l.length ∧ ∃ qs, Rep l f lo qs bs

theorem rep_nil : RepR 0 0 [] [] [] := ⟨rfl, by simp, [], ⟨rfl, by simp, by simp, List.nodup_nil⟩⟩

theorem rgo_eq {lo len : Nat} {l : FL} {f : BL} {bs : List Bk} (h : RepR lo len l f bs) (hA : AtOk bs) (hl : bs.length < 90000) (rw_ rg rn nw : Int) (ov : Bool) (w0 : -1 ≤ nw) (w1 : nw ≤ 1099511627776) :
    ∃ l', S.rgo l f lo len rw_ rg rn nw ov = some (lo, (keepB rn nw bs).length, rw_, rg, rn, nw, ov, l', f) ∧ RepR lo (keepB rn nw bs).length l' f (keepB rn nw bs) := by
  obtain ⟨rfl, hy, qs, hR⟩ := h
  obtain ⟨l', qs', e, hR', hl', _⟩ := rdel_eq l f lo lo bs.length rw_ rg rn nw ov w0 w1 qs bs hR hA hl hy
  refine ⟨l', ?_, rfl, ?_, qs', hR'⟩
  · unfold S.rgo; rw [e]; rfl
  · have := List.length_filter_le (fun b => !gone rn nw b) bs
    unfold keepB; omega

theorem Rep.set {l : FL} {f : BL} {lo : Nat} {qs : List Nat} {bs : List Bk} (h : Rep l f lo qs bs) {j q : Nat} {b' : Bk} (hq : qs[j]? = some q) (hf : q < f.length) : Rep l (f.set q b') lo qs (bs.set j b') := by
  refine ⟨by rw [List.length_set]; exact h.len, h.cells, fun i q' b hq' hb => ?_, h.nodup⟩
  rw [List.getElem?_set] at hb
  by_cases e : j = i
  · subst e
    rw [hq] at hq'; injection hq' with hq'; subst hq'
    rw [if_pos rfl] at hb
    split at hb
    · injection hb with hb; subst hb; simp [hf]
    · cases hb
  · rw [if_neg e] at hb
    have hne : q ≠ q' := by
      intro e2; subst e2
      have h1 := (List.getElem?_eq_some_iff.mp hq).1
      have h2 := (List.getElem?_eq_some_iff.mp hq').1
      exact e ((List.getElem?_inj h1 h.nodup).mp (hq.trans hq'.symm))
    rw [List.getElem?_set, if_neg hne]
    exact h.rows i q' b hq' hb

theorem Rep.snoc {l : FL} {f : BL} {lo : Nat} {qs : List Nat} {bs : List Bk} (h : Rep l f lo qs bs) (hy : lo + bs.length ≤ l.length) (b' : Bk) :
    Rep (cutL l lo bs.length ++ [some (0 + f.length)]) (f ++ [b']) 0 (qs ++ [f.length]) (bs ++ [b']) := by
  have hcl : (cutL l lo bs.length).length = bs.length := by unfold cutL; simp; omega
  have hlt : ∀ (i q : Nat), qs[i]? = some q → q < f.length := by
    intro i q hq
    have hi : i < bs.length := by rw [← h.len]; exact (List.getElem?_eq_some_iff.mp hq).1
    have := h.rows i q bs[i] hq (by simp [hi])
    exact (List.getElem?_eq_some_iff.mp this).1
  refine ⟨by simp [h.len], fun i q hq => ?_, fun i q b hq hb => ?_, ?_⟩
  · rw [List.getElem?_append] at hq
    rw [show 0 + i = i by omega, List.getElem?_append, hcl, ← h.len]
    split at hq
    · rename_i hi
      rw [if_pos hi]
      unfold cutL
      rw [List.getElem?_take, if_pos hi, List.getElem?_drop]
      exact h.cells i q hq
    · rename_i hi
      rw [if_neg hi]
      have : i - qs.length = 0 := by have := (List.getElem?_eq_some_iff.mp hq).1; simp at this; omega
      rw [this] at hq ⊢
      simp at hq; subst hq; simp
  · rw [List.getElem?_append] at hq hb
    rw [h.len] at hq
    split at hq
    · rename_i hi
      rw [if_pos hi] at hb
      rw [List.getElem?_append_left (hlt i q hq)]
      exact h.rows i q b hq hb
    · rename_i hi
      rw [if_neg hi] at hb
      have : i - bs.length = 0 := by have := (List.getElem?_eq_some_iff.mp hq).1; simp at this; omega
      rw [this] at hq hb
      simp at hq hb; subst hq; subst hb; simp
  · refine List.nodup_append.mpr ⟨h.nodup, by simp, fun x hx y hy2 e => ?_⟩
    simp at hy2
    obtain ⟨i, hi⟩ := List.getElem?_of_mem hx
    have := hlt i x hi; omega

theorem sn_get {α : Type} (f : List α) (b : α) : (f ++ [b])[0 + f.length]? = some b := by simp
theorem sn_set {α : Type} (f : List α) (b y : α) : (f ++ [b]).set (0 + f.length) y = f ++ [y] := by simp

/-- buckets whose numbers are small -/
def NOk (bs : List Bk) : Prop := ∀ b ∈ bs, 0 ≤ b.2.2.1 ∧ b.2.2.1 ≤ 1000000

theorem keepB_mem {n nw : Int} {bs : List Bk} {b : Bk} (h : b ∈ keepB n nw bs) : b ∈ bs ∧ ¬ n ≤ nw - b.1 := by
  unfold keepB at h
  obtain ⟨h1, h2⟩ := List.mem_filter.mp h
  unfold gone at h2
  exact ⟨h1, by simpa using h2⟩

theorem rp_yes {lo len : Nat} {l : FL} {f : BL} {bs : List Bk} (h : RepR lo len l f bs) (hA : AtOk bs) (hN : NOk bs) (hl : bs.length < 80000) {rg rn nw t v : Int} (rw_ : Int) (ov : Bool) (w0 : -1 ≤ nw) (w1 : nw ≤ 1099511627776)
    (g1 : 1 ≤ rg) (t0 : 0 ≤ t) (t1 : t ≤ 1099511627776) (v0 : 0 ≤ v) :
    ∃ lo' len' l' f', S.rp l f lo len rw_ rg rn nw ov t v = some (0, lo', len', rw_, rg, rn, (if t.tdiv rg > nw then t.tdiv rg else nw), ov, l', f') ∧
      RepR lo' len' l' f' (if rn ≤ (if t.tdiv rg > nw then t.tdiv rg else nw) - t.tdiv rg then keepB rn (if t.tdiv rg > nw then t.tdiv rg else nw) bs else putB (t.tdiv rg) v (keepB rn (if t.tdiv rg > nw then t.tdiv rg else nw) bs)) := by
  have htd := tdv t0 g1
  have hwa : IntKind.wrap .i64 (t.tdiv rg) = t.tdiv rg := wrap_id (by omega) (by omega)
  obtain ⟨a, ha⟩ : ∃ a, a = t.tdiv rg := ⟨_, rfl⟩
  rw [← ha] at htd hwa
  obtain ⟨m, hm⟩ : ∃ m, m = (if a > nw then a else nw) := ⟨_, rfl⟩
  have hm2 : a ≤ m ∧ nw ≤ m ∧ m ≤ 1099511627776 := by subst hm; split <;> omega
  have p1 : ¬ t < 0 := by omega
  have p2 : ¬ 1099511627776 < t := by omega
  have p3 : ¬ v < 0 := by omega
  have p4 : ¬ rg = 0 := by omega
  obtain ⟨l1, e1, h1⟩ := rgo_eq h hA (by omega) rw_ rg rn m ov (by omega) hm2.2.2
  obtain ⟨B, hB⟩ : ∃ B, B = keepB rn m bs := ⟨_, rfl⟩
  have hBl : B.length ≤ bs.length := by subst hB; exact List.length_filter_le _ _
  have hBA : AtOk B := fun b hb => hA b (by subst hB; exact (keepB_mem hb).1)
  have hBN : NOk B := fun b hb => hN b (by subst hB; exact (keepB_mem hb).1)
  rw [← hB] at e1 h1
  unfold S.rp
  rw [← ha]
  simp only [hwa, ← hm, p1, p2, p3, p4, decide_false, cond_false, e1, optK]
  rw [wrap_id (n := m - a) (by omega) (by omega), ← hB]
  by_cases c : rn ≤ m - a
  · simp only [c, decide_true, cond_true, if_true]
    exact ⟨_, _, _, _, rfl, h1⟩
  · obtain ⟨_, hy, qs, hR⟩ := h1
    simp only [c, decide_false, cond_false, if_false, rix2_eq l1 f lo a qs B hR (by omega)]
    cases hf : B.findIdx? (fun b => decide (b.1 = a)) with
    | none =>
      have c1 : (-1 : Int) < 0 := by omega
      have c2 : (Nat.beq 1 1 && Nat.blt 0 16 && Nat.beq 1 1 && Nat.beq 1 1 && Nat.beq 1 1 && true && !Nat.beq 1 4 && Nat.ble ((B.length + 1) * 16) 35184372088832) = true := by
        have : Nat.ble ((B.length + 1) * 16) 35184372088832 = true := Nat.ble_eq.mpr (by omega)
        rw [this]; rfl
      have hcl : (cutL l1 lo B.length).length = B.length := by unfold cutL; simp; omega
      have c3 : inB ((B.length : Nat) : Int) (cutL l1 lo B.length ++ [some (0 + f.length)]).length = true := by
        unfold inB; simp [hcl]; omega
      have c4 : (cutL l1 lo B.length ++ [some (0 + f.length)])[Int.toNat ((B.length : Nat) : Int) + 0]? = some (some (0 + f.length)) := by
        rw [Int.toNat_natCast, Nat.add_zero, List.getElem?_append_right (by omega), hcl, Nat.sub_self]; rfl
      have hsn := hR.snoc hy (addTo (a, 0, 0, false) v)
      simp only [c1, c2, c3, c4, decide_true, cond_true, sn_get, sn_set, cond_false]
      rw [wrap_id (n := 0 + 1) (by omega) (by omega)]
      refine ⟨_, _, _, _, rfl, ?_⟩
      rw [putB_none a v B hf]
      exact ⟨by simp [hcl], by simp [hcl], _, by simpa [addTo] using hsn⟩
    | some j =>
      obtain ⟨b, hb, hp⟩ := putB_some a v B j hf
      have hjl : j < B.length := (List.getElem?_eq_some_iff.mp hb).1
      have hbm := List.mem_of_getElem? hb
      obtain ⟨q, hq⟩ : ∃ q, qs[j]? = some q := ⟨qs[j]'(by rw [hR.len]; exact hjl), by simp⟩
      have hqf := hR.rows j q b hq hb
      have hql : q < f.length := (List.getElem?_eq_some_iff.mp hqf).1
      have c1 : ¬ ((j : Nat) : Int) < 0 := by omega
      have c2 : inB ((j : Nat) : Int) B.length = true := by unfold inB; simp; omega
      have c3 : l1[Int.toNat ((j : Nat) : Int) + lo]? = some (some q) := by have := hR.cells j q hq; rw [Nat.add_comm] at this; simpa using this
      have hss : ∀ y : Bk, (f.set q y)[q]? = some y := fun y => by simp [hql]
      have hnb := hBN b hbm
      rw [hp]
      refine ⟨lo, B.length, l1, f.set q (addTo b v), ?_, by simp, by simp; omega, qs, hR.set hq hql⟩
      simp only [c1, c2, c3, decide_false, cond_false, cond_true, optK, hqf, hss, List.set_set]
      rw [wrap_id (n := b.2.2.1 + 1) (by omega) (by omega)]
      unfold addTo
      cases hcut : b.2.2.2 <;> simp

theorem rp_no (l : FL) (f : BL) (lo len : Nat) (rw_ rg rn nw t v : Int) (ov : Bool) (h : ¬ Takes (t, v)) : S.rp l f lo len rw_ rg rn nw ov t v = some (1, lo, len, rw_, rg, rn, nw, ov, l, f) := by
  unfold S.rp
  by_cases p1 : t < 0
  · simp [p1]
  by_cases p2 : 1099511627776 < t
  · simp [p1, p2]
  by_cases p3 : v < 0
  · simp [p1, p2, p3]
  exact absurd ⟨⟨by simp only; omega, by simp only; omega⟩, by simp only; omega⟩ h

/-! what is summed -/
def inW (n last a : Int) : Bool := decide (a ≤ last ∧ last - a < n)
def sumS (n last : Int) : Int → Int → Bool → List Bk → Int × Int × Bool
  | s, c, ov, [] => (s, c, ov)
  | s, c, ov, b :: r => if inW n last b.1 = true then sumS n last (S.madd s b.2.1).1 (c + b.2.2.1) (ov || b.2.2.2 || !decide ((S.madd s b.2.1).2 = 0)) r else sumS n last s c ov r

theorem rs_loop (fu : Nat) (l : FL) (f : BL) (lo : Nat) (rw_ rg rn nw t : Int) (ov0 : Bool) (qs : List Nat) (bs : List Bk) (hR : Rep l f lo qs bs) (hA : AtOk bs) (hN : NOk bs) (hl : bs.length < 100000) (g1 : 1 ≤ rg) (t0 : 0 ≤ t) (t1 : t < 9223372036854775808) :
    ∀ (n i : Nat) (s c : Int) (ov : Bool), i ≤ bs.length → bs.length < n + i → 0 ≤ c → c ≤ i * 1000000 →
    S.rs_l0 fu l f lo bs.length rw_ rg rn nw ov0 t n s c i ov = some ((sumS rn (t.tdiv rg) s c ov (bs.drop i)).1, (sumS rn (t.tdiv rg) s c ov (bs.drop i)).2.1, (bs.length : Int), false, (sumS rn (t.tdiv rg) s c ov (bs.drop i)).2.2) := by
  have htd := tdv t0 g1
  have hwt : IntKind.wrap .i64 (t.tdiv rg) = t.tdiv rg := wrap_id (by omega) (by omega)
  intro n
  induction n with
  | zero => intro i s c ov _ _; omega
  | succ n ih =>
    intro i s c ov hi hn c0 c1
    unfold S.rs_l0
    by_cases c2 : i < bs.length
    · have g1 : ((i : Int) < ((bs.length : Nat) : Int)) := by omega
      have g2 : inB (i : Int) bs.length = true := by unfold inB; simp; omega
      obtain ⟨b, hb⟩ : ∃ b, bs[i]? = some b := ⟨bs[i]'c2, by simp⟩
      obtain ⟨q, hq⟩ : ∃ q, qs[i]? = some q := ⟨qs[i]'(by rw [hR.len]; exact c2), by simp⟩
      have g3 : l[Int.toNat (i : Int) + lo]? = some (some q) := by have := hR.cells i q hq; rw [Nat.add_comm] at this; simpa using this
      have hw : IntKind.wrap .i64 ((i : Int) + 1) = ((i + 1 : Nat) : Int) := by rw [wrap_id (by omega) (by omega)]; omega
      have hqf := hR.rows i q b hq hb
      have hbm := List.mem_of_getElem? hb
      have ha := hA b hbm
      have hnb := hN b hbm
      have hd : bs.drop i = b :: bs.drop (i + 1) := by
        rw [List.drop_eq_getElem_cons c2]; congr 1; rw [List.getElem?_eq_getElem c2] at hb; injection hb
      have hwd : IntKind.wrap .i64 (t.tdiv rg - b.1) = t.tdiv rg - b.1 := wrap_id (by omega) (by omega)
      have hwc : IntKind.wrap .i64 (c + b.2.2.1) = c + b.2.2.1 := wrap_id (by omega) (by omega)
      simp only [g1, g2, g3, decide_true, cond_true, optK, optC, hqf, hw, hwt, hwd, hwc]
      rw [hd]
      unfold sumS
      by_cases k1 : t.tdiv rg < b.1
      · have k : ¬ inW rn (t.tdiv rg) b.1 = true := by unfold inW; simp; omega
        simp only [k1, k, decide_true, cond_true, if_false]
        exact ih (i + 1) s c ov (by omega) (by omega) c0 (by omega)
      · by_cases k2 : rn ≤ t.tdiv rg - b.1
        · have k : ¬ inW rn (t.tdiv rg) b.1 = true := by unfold inW; simp; omega
          simp only [k1, k2, k, decide_true, decide_false, cond_true, cond_false, if_false]
          exact ih (i + 1) s c ov (by omega) (by omega) c0 (by omega)
        · have k : inW rn (t.tdiv rg) b.1 = true := by unfold inW; simp; omega
          simp only [k1, k2, k, decide_false, cond_false, if_true]
          have hih := fun (ov' : Bool) => ih (i + 1) (S.madd s b.2.1).1 (c + b.2.2.1) ov' (by omega) (by omega) (by omega) (by omega)
          cases ov with
          | true => simp only [cond_true, Bool.true_or]; exact hih true
          | false =>
            cases hcut : b.2.2.2 with
            | true => simp only [cond_true, cond_false, Bool.false_or, Bool.true_or]; exact hih true
            | false => simp only [cond_false, Bool.false_or]; exact hih _
    · have g1 : ¬ ((i : Int) < ((bs.length : Nat) : Int)) := by omega
      have hk2 : i = bs.length := by omega
      simp only [g1, decide_false, cond_false]
      rw [List.drop_eq_nil_of_le (by omega), hk2]; rfl

theorem rs_eq {lo len : Nat} {l : FL} {f : BL} {bs : List Bk} (h : RepR lo len l f bs) (hA : AtOk bs) (hN : NOk bs) (hl : bs.length < 90000) (rw_ rg rn nw t : Int) (ov : Bool) (g1 : 1 ≤ rg) (t0 : 0 ≤ t) (t1 : t < 9223372036854775808) :
    S.rs 100000 l f lo len rw_ rg rn nw ov t = some ((sumS rn (t.tdiv rg) 0 0 ov bs).1, (sumS rn (t.tdiv rg) 0 0 ov bs).2.1, lo, len, rw_, rg, rn, nw, (sumS rn (t.tdiv rg) 0 0 ov bs).2.2, l, f) := by
  obtain ⟨rfl, hy, qs, hR⟩ := h
  have p1 : ¬ t < 0 := by omega
  have p4 : ¬ rg = 0 := by omega
  have e := rs_loop 100000 l f lo rw_ rg rn nw t ov qs bs hR hA hN (by omega) g1 t0 t1 100000 0 0 0 ov (by omega) (by omega) (by omega) (by omega)
  have e' : S.rs_l0 100000 l f lo bs.length rw_ rg rn nw ov t 100000 0 0 0 ov = _ := e
  unfold S.rs
  simp only [p1, p4, decide_false, cond_false, e', List.drop_zero, optK, S.rs_a0_0]
theorem rs_neg (l : FL) (f : BL) (lo len : Nat) (rw_ rg rn nw t : Int) (ov : Bool) (h : t < 0) : S.rs 100000 l f lo len rw_ rg rn nw ov t = some (0, 0, lo, len, rw_, rg, rn, nw, ov, l, f) := by
  unfold S.rs
  simp [h]
end Go.Proofs.Ytfoaihjkmfhaoaa.AB
