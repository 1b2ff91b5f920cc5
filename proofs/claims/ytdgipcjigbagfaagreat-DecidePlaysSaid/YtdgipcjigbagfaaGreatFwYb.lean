/- Structs whose last field is a struct. -/
import Derived.Test.YtdgipcjigbagfaaGreatFwY
namespace Go.Proofs.YtdgipcjigbagfaaGreat.AB
open Go.RowKit Go.ChangeShapes Go.WideShapes Go.Deep
set_option linter.unusedSimpArgs false
set_option linter.unusedVariables false
section
variable {H : Type} {enc : TypeId × Value → H} {P : Program} {w : World} {base : Nat} {spare : Nat → Bool} {held : Bool}

/-- fields, from cell n on, are told by a code; the last one may be a struct -/
def flds2Ok (P : Program) : List Field → Nat → Nat → Cd → Bool
  | [], _, _, _ => false
  | [f], n, t, c => Nat.beq f.offset n && Nat.beq (n + P.cellsOf f.type) t && elOk P f.type c
  | f :: r, n, t, .pair a b => Nat.beq f.offset n && Nat.beq (P.cellsOf f.type) 1 && scOk P f.type a && flds2Ok P r (n + 1) t b
  | _, _, _, _ => false

theorem flds2_open : ∀ (fs : List Field) (n t : Nat) (c : Cd), flds2Ok P fs n t c = true → ∀ {cs : List Value} {fuel : Nat}, cs.length = t →
    (∀ f ∈ fs, ∃ y, DataW.trod enc P w base spare held fuel f.type ((cs.drop f.offset).take (P.cellsOf f.type)) = some y) → ∃ x : c.El, c.fit x ∧ ∀ φ, VRels φ (c.enc x) (cs.drop n)
  | [], n, t, c, h, _, _, _, _ => by cases c <;> cases h
  | [f], n, t, c, h, cs, fuel, hl, ht => by
    have h' : (Nat.beq f.offset n && Nat.beq (n + P.cellsOf f.type) t && elOk P f.type c) = true := by cases c <;> exact h
    simp only [Bool.and_eq_true] at h'
    obtain ⟨y, hy⟩ := ht f (by simp)
    have e0 := Nat.eq_of_beq_eq_true h'.1.2
    rw [Nat.eq_of_beq_eq_true h'.1.1] at hy
    have e : (cs.drop n).take (P.cellsOf f.type) = cs.drop n := List.take_of_length_le (by simp [hl]; omega)
    rw [e] at hy
    exact el_open h'.2 hy
  | f :: g :: r, n, t, .pair a b, h, cs, fuel, hl, ht => by
    simp only [flds2Ok, Bool.and_eq_true] at h
    obtain ⟨y, hy⟩ := ht f (by simp)
    rw [Nat.eq_of_beq_eq_true h.1.1.1, Nat.eq_of_beq_eq_true h.1.1.2] at hy
    obtain ⟨x, fx, hx⟩ := sc_open h.1.2 hy
    obtain ⟨z, fz, hz⟩ := flds2_open (g :: r) (n + 1) t b h.2 (cs := cs) (fuel := fuel) hl (fun f' hf' => ht f' (by simp at hf' ⊢; exact .inr hf'))
    refine ⟨(x, z), ⟨fx, fz⟩, fun φ => ?_⟩
    have e : cs.drop n = (cs.drop n).take 1 ++ cs.drop (n + 1) := by
      rw [← List.drop_drop, List.take_append_drop]
    rw [e]
    exact (hx φ).append (hz φ)
  | _ :: _ :: _, _, _, .int _, h, _, _, _, _ => by cases h
  | _ :: _ :: _, _, _, .bool, h, _, _, _, _ => by cases h
  | _ :: _ :: _, _, _, .str, h, _, _, _, _ => by cases h
  | _ :: _ :: _, _, _, .box _ _, h, _, _, _, _ => by cases h

/-- a type is told by a code -/
def el2Ok (P : Program) (T : TypeId) (c : Cd) : Bool :=
  match P.underlying T with | some (.struct fs) => flds2Ok P fs.toList 0 (P.cellsOf T) c | _ => false

theorem el2_open {T : TypeId} {c : Cd} (hc : el2Ok P T c = true) {fuel : Nat} {cs : List Value} {y : DataW H × List MemPlace} (h : DataW.trod enc P w base spare held fuel T cs = some y) :
    ∃ x : c.El, c.fit x ∧ ∀ φ, VRels φ (c.enc x) cs := by
  unfold el2Ok at hc
  split at hc
  · rename_i fs hu
    obtain ⟨xs, m, _, _, hlen, hxl, hf⟩ := DataW.trod_struct hu h
    obtain ⟨x, fx, hx⟩ := flds2_open (enc := enc) (w := w) (base := base) (spare := spare) (held := held) fs.toList 0 _ c hc (cs := cs) (fuel := m) hlen (fun f hfm => by
      obtain ⟨i, hi⟩ := List.getElem?_of_mem hfm
      have hi' : fs[i]? = some f := by simpa using hi
      have := hf i f hi'
      have hlt : i < xs.length := by rw [hxl]; exact (Array.getElem?_eq_some_iff.mp hi').1
      exact ⟨xs[i], by rw [this, List.getElem?_eq_getElem hlt]⟩)
    exact ⟨x, fx, fun φ => by simpa using hx φ⟩
  · cases hc

/-- a slice that is only read, of such structs -/
theorem open_rows2 {T e : TypeId} {c : Cd} (ht : P.underlying T = some (.slice e)) (hc : el2Ok P e c = true) (hC : P.cellsOf e = c.size) (hpos : 0 < c.size) {r : Reach} {b0 : Nat} {v : Value} {d : DataW H} {ps : List MemPlace}
    (hv : Value.okWide P w r b0 T v) (h : DataW.Trod enc P w base (fun _ => true) held T v d ps) :
    ∃ (l : List c.El) (L : Loc), (∀ φ b, φ b = some L → VRel φ (.slice c.size b 0 l.length none) v) ∧ (∀ φ, BRel φ w (.rows c l true) (some L) (ownOf L)) ∧ l.length ≤ maxLen ∧ ∀ x ∈ l, c.fit x := by
  obtain ⟨a0, len0, cap0, rfl⟩ := okWide_slice ht hv
  obtain ⟨fuel, hf⟩ := h
  rcases open_slice ht hf with ⟨hcs, _⟩ | ⟨a, len, cap, m, n, D, Pl, hcs, _, hlc, hcm, hm, _, hrow⟩
  · simp [Value.cells] at hcs
    obtain ⟨rfl, rfl, rfl⟩ := hcs
    refine ⟨[], ⟨0, 0, c.size, 0, 0, []⟩, fun φ b hb => ?_, fun φ _ => ?_, by simp, by simp⟩
    · simp only [VRel]
      exact ⟨_, none, 0, hb, rfl, rfl, by simp, by simp, by simp, .inl rfl, by simp⟩
    · exact ⟨_, rfl, rfl, rfl, rfl, by simp [Blk.cnt], fun h => absurd rfl h, rfl⟩
  · simp [Value.cells] at hcs
    obtain ⟨rfl, rfl, rfl⟩ := hcs
    simp only [if_true] at hm
    subst hm
    obtain ⟨l, hl, hlp⟩ := list_of (p := fun i (x : c.El) => c.fit x ∧ ∃ cs', w.cells? base (a.add (i * c.size)) c.size = some cs' ∧ ∀ φ, VRels φ (c.enc x) cs') m fun i hi => by
      obtain ⟨cs', hcs', htr⟩ := hrow i hi
      rw [hC] at hcs'
      obtain ⟨x, fx, hx⟩ := el2_open hc htr
      exact ⟨x, fx, cs', hcs', hx⟩
    have hat : ∀ i x, l[i]? = some x → ∀ φ j u, (c.enc x)[j]? = some u → ∃ z, w.cell? ((a.add (i * c.size)).add j) = some z ∧ VRel φ u z := by
      intro i x hx φ j u hu
      obtain ⟨_, cs', hcs', hr⟩ := hlp i x hx
      obtain ⟨z, hz, hzr⟩ := (hr φ).get j u hu
      obtain ⟨_, hlen, hcell⟩ := World.cells?_some hcs'
      have hj := (List.getElem?_eq_some_iff.mp hz).1
      exact ⟨z, by rw [hcell j (by omega)]; exact hz, hzr⟩
    refine ⟨l.take len0, ⟨a.block, a.off, c.size, len0, m, []⟩, fun φ b hb => ?_, fun φ _ => ?_, ?_, fun x hx => ?_⟩
    · simp only [VRel]
      refine ⟨_, some a, m, hb, ?_, rfl, ?_, ?_, by simp, ?_, by simp⟩
      · simp [hl]; omega
      · simp [hl]; omega
      · simp [hl]; omega
      · by_cases h0 : m = 0
        · exact .inl h0
        · right
          have hlt : 0 < l.length := by omega
          have henc : 0 < (c.enc l[0]).length := by rw [Cd.enc_length]; exact hpos
          obtain ⟨z, hz, _⟩ := hat 0 l[0] (List.getElem?_eq_getElem hlt) φ 0 _ (List.getElem?_eq_getElem henc)
          rw [Nat.zero_mul] at hz
          have := (cell_heap hz).1
          simp [Addr.add] at this
          cases a with
          | mk b o s => simp at this; subst this; simp
    · refine ⟨_, rfl, rfl, ?_, rfl, ?_, fun h0 => ?_, rfl⟩
      · simp [Blk.cnt, hl]; omega
      · simp [Blk.cnt, hl]; omega
      · simp only at h0
        have hlt : 0 < l.length := by omega
        have henc : ∀ x : c.El, (c.enc x).length = c.size := Cd.enc_length c
        obtain ⟨z, hz, _⟩ := hat 0 l[0] (List.getElem?_eq_getElem hlt) φ 0 _ (List.getElem?_eq_getElem (by rw [henc]; exact hpos))
        rw [Nat.zero_mul] at hz
        obtain ⟨hsp, arr, el, fz, hh, _⟩ := cell_heap hz
        have hsp' : a.spot = none := by simpa [Addr.add] using hsp
        have hbl : ((a.add 0).add 0).block = a.block := by simp [Addr.add]
        rw [hbl] at hh
        have hplace : ∀ i j, ((a.add (i * c.size)).add j).block = a.block ∧ ((a.add (i * c.size)).add j).off = a.off + i * c.size + j := by
          intro i j
          simp only [Addr.add]
          split <;> split <;> simp_all <;> omega
        have hin : ∀ i x, l[i]? = some x → ∀ j u, (c.enc x)[j]? = some u → ∃ z, arr[a.off + i * c.size + j]? = some z ∧ VRel φ u z := by
          intro i x hx j u hu
          obtain ⟨z, hz, hzr⟩ := hat i x hx φ j u hu
          obtain ⟨_, arr', el', fz', hh', hz'⟩ := cell_heap hz
          rw [(hplace i j).1, hh] at hh'
          injection hh' with hh'; injection hh' with e1 e2 e3; subst e1
          rw [(hplace i j).2] at hz'
          exact ⟨z, hz', hzr⟩
        refine ⟨by simp [Blk.cnt, hl]; omega, arr, el, fz, hh, ?_, fun h => (by cases h), fun i cs hi j u hu => ?_⟩
        · have hlast : m - 1 < l.length := by omega
          obtain ⟨z, hz, _⟩ := hin (m - 1) l[m - 1] (List.getElem?_eq_getElem hlast) (c.size - 1) _ (List.getElem?_eq_getElem (by rw [henc]; omega))
          have := (Array.getElem?_eq_some_iff.mp hz).1
          have e : m * c.size = (m - 1) * c.size + c.size := by
            conv => lhs; rw [show m = (m - 1) + 1 by omega]
            rw [Nat.add_mul]; simp
          simp only; omega
        · simp only [Blk.rowAt] at hi
          cases hx : (l.take len0)[i]? with
          | none => rw [hx] at hi; cases hi
          | some x =>
            rw [hx] at hi; simp at hi; subst hi
            rw [List.getElem?_take] at hx
            split at hx
            · exact hin i x hx j u hu
            · cases hx
    · simp [hl]; omega
    · obtain ⟨i, hi⟩ := List.getElem?_of_mem (List.mem_of_mem_take hx)
      exact (hlp i x hi).1
end
end Go.Proofs.YtdgipcjigbagfaaGreat.AB
