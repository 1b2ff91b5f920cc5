/- A law's arguments, opened: structs and slices of whole numbers, bools and strings. -/
import Derived.Test.YtdgipcjigbagfaaGreatFwX
import Derived.Deep.Slices
import Derived.ChangeOld
namespace Go.Proofs.YtdgipcjigbagfaaGreat.AB
open Go.RowKit Go.ChangeShapes Go.WideShapes Go.Deep
set_option linter.unusedSimpArgs false
set_option linter.unusedVariables false
section
variable {H : Type} {enc : TypeId × Value → H} {P : Program} {w : World} {base : Nat} {spare : Nat → Bool} {held : Bool}

/-- whole numbers within their kind -/
def Cd.fit : (c : Cd) → c.El → Prop
  | .int k, n => LE.le (α := Int) k.min n ∧ LE.le (α := Int) n k.max
  | .bool, _ => True
  | .str, s => ByteArray.size s ≤ maxLen
  | .pair a b, x => a.fit x.1 ∧ b.fit x.2
  | .box _ _, _ => True

/-- a type of one cell is told by a code -/
def scOk (P : Program) (T : TypeId) : Cd → Bool
  | .int k => match P.underlying T with | some (.int k') => decide (k' = k) | _ => false
  | .bool => match P.underlying T with | some .bool => true | _ => false
  | .str => match P.underlying T with | some .string => true | _ => false
  | _ => false

theorem sc_open {T : TypeId} {c : Cd} (hc : scOk P T c = true) {fuel : Nat} {cs : List Value} {y : DataW H × List MemPlace} (h : DataW.trod enc P w base spare held fuel T cs = some y) :
    ∃ x : c.El, c.fit x ∧ ∀ φ, VRels φ (c.enc x) cs := by
  cases c with
  | int k =>
    simp only [scOk] at hc
    split at hc
    · rename_i k' hu
      have := of_decide_eq_true hc; subst this
      obtain ⟨n, rfl, _, hw⟩ := DataW.trod_int hu h
      exact ⟨n, by simpa [Lit.wf, Cd.fit] using hw, fun φ => by simp [Cd.enc, VRels, VRel]⟩
    · cases hc
  | bool =>
    simp only [scOk] at hc
    split at hc
    · rename_i hu
      obtain ⟨n, rfl, _⟩ := DataW.trod_bool hu h
      exact ⟨n, trivial, fun φ => by simp [Cd.enc, VRels, VRel]⟩
    · cases hc
  | str =>
    simp only [scOk] at hc
    split at hc
    · rename_i hu
      obtain ⟨n, rfl, _, hw⟩ := DataW.trod_string hu h
      exact ⟨n, hw, fun φ => by simp [Cd.enc, VRels, VRel]⟩
    · cases hc
  | pair _ _ => cases hc
  | box _ _ => cases hc

/-- fields, from cell n on, are told by a code -/
def fldsOk (P : Program) : List Field → Nat → Cd → Bool
  | [], _, _ => false
  | [f], n, c => Nat.beq f.offset n && Nat.beq (P.cellsOf f.type) 1 && scOk P f.type c
  | f :: r, n, .pair a b => Nat.beq f.offset n && Nat.beq (P.cellsOf f.type) 1 && scOk P f.type a && fldsOk P r (n + 1) b
  | _, _, _ => false

theorem flds_open : ∀ (fs : List Field) (n : Nat) (c : Cd), fldsOk P fs n c = true → ∀ {cs : List Value} {fuel : Nat}, cs.length = n + fs.length →
    (∀ f ∈ fs, ∃ y, DataW.trod enc P w base spare held fuel f.type ((cs.drop f.offset).take (P.cellsOf f.type)) = some y) → ∃ x : c.El, c.fit x ∧ ∀ φ, VRels φ (c.enc x) (cs.drop n)
  | [], n, c, h, _, _, _, _ => by cases c <;> cases h
  | [f], n, c, h, cs, fuel, hl, ht => by
    have h' : (Nat.beq f.offset n && Nat.beq (P.cellsOf f.type) 1 && scOk P f.type c) = true := by cases c <;> exact h
    simp only [Bool.and_eq_true] at h'
    obtain ⟨y, hy⟩ := ht f (by simp)
    rw [Nat.eq_of_beq_eq_true h'.1.1, Nat.eq_of_beq_eq_true h'.1.2] at hy
    have e : (cs.drop n).take 1 = cs.drop n := List.take_of_length_le (by simp [hl])
    rw [e] at hy
    exact sc_open h'.2 hy
  | f :: g :: r, n, .pair a b, h, cs, fuel, hl, ht => by
    simp only [fldsOk, Bool.and_eq_true] at h
    obtain ⟨y, hy⟩ := ht f (by simp)
    rw [Nat.eq_of_beq_eq_true h.1.1.1, Nat.eq_of_beq_eq_true h.1.1.2] at hy
    obtain ⟨x, fx, hx⟩ := sc_open h.1.2 hy
    obtain ⟨z, fz, hz⟩ := flds_open (g :: r) (n + 1) b h.2 (cs := cs) (fuel := fuel) (by simp at hl ⊢; omega) (fun f' hf' => ht f' (by simp at hf' ⊢; exact .inr hf'))
    refine ⟨(x, z), ⟨fx, fz⟩, fun φ => ?_⟩
    have e : cs.drop n = (cs.drop n).take 1 ++ cs.drop (n + 1) := by
      rw [← List.drop_drop, List.take_append_drop]
    rw [e]
    exact (hx φ).append (hz φ)
  | _ :: _ :: _, _, .int _, h, _, _, _, _ => by cases h
  | _ :: _ :: _, _, .bool, h, _, _, _, _ => by cases h
  | _ :: _ :: _, _, .str, h, _, _, _, _ => by cases h
  | _ :: _ :: _, _, .box _ _, h, _, _, _, _ => by cases h

/-- a type is told by a code -/
def elOk (P : Program) (T : TypeId) (c : Cd) : Bool :=
  scOk P T c || (match P.underlying T with | some (.struct fs) => fldsOk P fs.toList 0 c && Nat.beq (P.cellsOf T) fs.size | _ => false)

theorem el_open {T : TypeId} {c : Cd} (hc : elOk P T c = true) {fuel : Nat} {cs : List Value} {y : DataW H × List MemPlace} (h : DataW.trod enc P w base spare held fuel T cs = some y) :
    ∃ x : c.El, c.fit x ∧ ∀ φ, VRels φ (c.enc x) cs := by
  simp only [elOk, Bool.or_eq_true] at hc
  rcases hc with hc | hc
  · exact sc_open hc h
  · split at hc
    · rename_i fs hu
      simp only [Bool.and_eq_true] at hc
      obtain ⟨xs, m, _, _, hlen, hxl, hf⟩ := DataW.trod_struct hu h
      obtain ⟨x, fx, hx⟩ := flds_open (enc := enc) (w := w) (base := base) (spare := spare) (held := held) fs.toList 0 c hc.1 (cs := cs) (fuel := m) (by rw [hlen, Nat.eq_of_beq_eq_true hc.2]; simp) (fun f hfm => by
        obtain ⟨i, hi⟩ := List.getElem?_of_mem hfm
        have hi' : fs[i]? = some f := by simpa using hi
        have := hf i f hi'
        have hlt : i < xs.length := by rw [hxl]; exact (Array.getElem?_eq_some_iff.mp hi').1
        exact ⟨xs[i], by rw [this, List.getElem?_eq_getElem hlt]⟩)
      exact ⟨x, fx, fun φ => by simpa using hx φ⟩
    · cases hc

/-- a struct, by value -/
theorem open_flat {T : TypeId} {c : Cd} {fs : Array Field} (hu : P.underlying T = some (.struct fs)) (hc : elOk P T c = true) {r : Reach} {b0 : Nat} {v : Value} {d : DataW H} {ps : List MemPlace}
    (hv : Value.okWide P w r b0 T v) (h : DataW.Trod enc P w base spare held T v d ps) : ∃ x : c.El, c.fit x ∧ ∀ φ, VRel φ (.agg (c.enc x)) v := by
  obtain ⟨cs, rfl, hsz⟩ := okWide_struct hu hv
  obtain ⟨fuel, hf⟩ := h
  obtain ⟨x, fx, hx⟩ := el_open hc hf
  refine ⟨x, fx, fun φ => ?_⟩
  simp only [VRel]
  exact ⟨cs.toList, by simp, by simpa [Value.cells] using hx φ⟩

theorem wf_i64 {n : Int} (h : (Lit.int .i64 n).wf = true) : -9223372036854775808 ≤ n ∧ n < 9223372036854775808 := by
  have h1 : IntKind.min .i64 = -9223372036854775808 := by decide
  have h2 : IntKind.max .i64 = 9223372036854775807 := by decide
  simp only [Lit.wf, Bool.and_eq_true, decide_eq_true_eq, h1, h2] at h
  omega

theorem list_of {α : Type} {p : Nat → α → Prop} : ∀ (n : Nat), (∀ i, i < n → ∃ x, p i x) → ∃ l : List α, l.length = n ∧ ∀ i x, l[i]? = some x → p i x
  | 0, _ => ⟨[], rfl, fun i x h => by simp at h⟩
  | n + 1, h => by
    obtain ⟨l, hl, hp⟩ := list_of n fun i hi => h i (by omega)
    obtain ⟨x, hx⟩ := h n (by omega)
    refine ⟨l ++ [x], by simp [hl], fun i y hy => ?_⟩
    rw [List.getElem?_append] at hy
    split at hy
    · exact hp i y hy
    · rename_i hge
      have hlt := (List.getElem?_eq_some_iff.mp hy).1
      simp at hlt
      have e : i = n := by omega
      subst e
      simp [hl] at hy
      subst hy; exact hx

theorem cell_heap {a : Addr} {v : Value} (h : w.cell? a = some v) : a.spot = none ∧ ∃ arr e fz, w.heap[a.block]? = some (.cells arr e fz) ∧ arr[a.off]? = some v := by
  unfold World.cell? at h
  split at h
  · rename_i c e fz hh
    split at h
    · cases h
    · rename_i hs
      exact ⟨by simpa using hs, c, e, fz, hh, h⟩
  · cases h

/-- a slice that is only read -/
theorem open_rows {T e : TypeId} {c : Cd} (ht : P.underlying T = some (.slice e)) (hc : elOk P e c = true) (hC : P.cellsOf e = c.size) (hpos : 0 < c.size) {r : Reach} {b0 : Nat} {v : Value} {d : DataW H} {ps : List MemPlace}
    (hv : Value.okWide P w r b0 T v) (h : DataW.Trod enc P w base (fun _ => true) held T v d ps) :
    ∃ (l : List c.El) (L : Loc), (∀ φ b, φ b = some L → VRel φ (.slice c.size b 0 l.length none) v) ∧ (∀ φ, BRel φ w (.rows c l true) (some L) (ownOf L)) ∧ l.length ≤ maxLen ∧ ∀ x ∈ l, c.fit x := by
  obtain ⟨a0, len0, cap0, rfl⟩ := okWide_slice ht hv
  obtain ⟨fuel, hf⟩ := h
  rcases open_slice ht hf with ⟨hcs, _⟩ | ⟨a, len, cap, m, n, D, Pl, hcs, _, hlc, hcm, hm, _, hrow⟩
  · simp [Value.cells] at hcs
    obtain ⟨rfl, rfl, rfl⟩ := hcs
    refine ⟨[], ⟨0, 0, c.size, 0, 0, []⟩, fun φ b hb => ?_, fun φ _ => ?_, by simp, by simp⟩
    · simp only [VRel]
      exact ⟨_, none, 0, hb, rfl, rfl, by simp, by simp, by simp, .inl rfl, by simp⟩
    · exact ⟨_, rfl, rfl, rfl, rfl, by simp [Blk.cnt], fun h => absurd rfl h, rfl⟩
  · simp [Value.cells] at hcs
    obtain ⟨rfl, rfl, rfl⟩ := hcs
    simp only [if_true] at hm
    subst hm
    obtain ⟨l, hl, hlp⟩ := list_of (p := fun i (x : c.El) => c.fit x ∧ ∃ cs', w.cells? base (a.add (i * c.size)) c.size = some cs' ∧ ∀ φ, VRels φ (c.enc x) cs') m fun i hi => by
      obtain ⟨cs', hcs', htr⟩ := hrow i hi
      rw [hC] at hcs'
      obtain ⟨x, fx, hx⟩ := el_open hc htr
      exact ⟨x, fx, cs', hcs', hx⟩
    have hat : ∀ i x, l[i]? = some x → ∀ φ j u, (c.enc x)[j]? = some u → ∃ z, w.cell? ((a.add (i * c.size)).add j) = some z ∧ VRel φ u z := by
      intro i x hx φ j u hu
      obtain ⟨_, cs', hcs', hr⟩ := hlp i x hx
      obtain ⟨z, hz, hzr⟩ := (hr φ).get j u hu
      obtain ⟨_, hlen, hcell⟩ := World.cells?_some hcs'
      have hj := (List.getElem?_eq_some_iff.mp hz).1
      exact ⟨z, by rw [hcell j (by omega)]; exact hz, hzr⟩
    refine ⟨l.take len0, ⟨a.block, a.off, c.size, len0, m, []⟩, fun φ b hb => ?_, fun φ _ => ?_, ?_, fun x hx => ?_⟩
    · simp only [VRel]
      refine ⟨_, some a, m, hb, ?_, rfl, ?_, ?_, by simp, ?_, by simp⟩
      · simp [hl]; omega
      · simp [hl]; omega
      · simp [hl]; omega
      · by_cases h0 : m = 0
        · exact .inl h0
        · right
          have hlt : 0 < l.length := by omega
          have henc : 0 < (c.enc l[0]).length := by rw [Cd.enc_length]; exact hpos
          obtain ⟨z, hz, _⟩ := hat 0 l[0] (List.getElem?_eq_getElem hlt) φ 0 _ (List.getElem?_eq_getElem henc)
          rw [Nat.zero_mul] at hz
          have := (cell_heap hz).1
          simp [Addr.add] at this
          cases a with
          | mk b o s => simp at this; subst this; simp
    · refine ⟨_, rfl, rfl, ?_, rfl, ?_, fun h0 => ?_, rfl⟩
      · simp [Blk.cnt, hl]; omega
      · simp [Blk.cnt, hl]; omega
      · simp only at h0
        have hlt : 0 < l.length := by omega
        have henc : ∀ x : c.El, (c.enc x).length = c.size := Cd.enc_length c
        obtain ⟨z, hz, _⟩ := hat 0 l[0] (List.getElem?_eq_getElem hlt) φ 0 _ (List.getElem?_eq_getElem (by rw [henc]; exact hpos))
        rw [Nat.zero_mul] at hz
        obtain ⟨hsp, arr, el, fz, hh, _⟩ := cell_heap hz
        have hsp' : a.spot = none := by simpa [Addr.add] using hsp
        have hbl : ((a.add 0).add 0).block = a.block := by simp [Addr.add]
        rw [hbl] at hh
        have hplace : ∀ i j, ((a.add (i * c.size)).add j).block = a.block ∧ ((a.add (i * c.size)).add j).off = a.off + i * c.size + j := by
          intro i j
          simp only [Addr.add]
          split <;> split <;> simp_all <;> omega
        have hin : ∀ i x, l[i]? = some x → ∀ j u, (c.enc x)[j]? = some u → ∃ z, arr[a.off + i * c.size + j]? = some z ∧ VRel φ u z := by
          intro i x hx j u hu
          obtain ⟨z, hz, hzr⟩ := hat i x hx φ j u hu
          obtain ⟨_, arr', el', fz', hh', hz'⟩ := cell_heap hz
          rw [(hplace i j).1, hh] at hh'
          injection hh' with hh'; injection hh' with e1 e2 e3; subst e1
          rw [(hplace i j).2] at hz'
          exact ⟨z, hz', hzr⟩
        refine ⟨by simp [Blk.cnt, hl]; omega, arr, el, fz, hh, ?_, fun h => (by cases h), fun i cs hi j u hu => ?_⟩
        · have hlast : m - 1 < l.length := by omega
          obtain ⟨z, hz, _⟩ := hin (m - 1) l[m - 1] (List.getElem?_eq_getElem hlast) (c.size - 1) _ (List.getElem?_eq_getElem (by rw [henc]; omega))
          have := (Array.getElem?_eq_some_iff.mp hz).1
          have e : m * c.size = (m - 1) * c.size + c.size := by
            conv => lhs; rw [show m = (m - 1) + 1 by omega]
            rw [Nat.add_mul]; simp
          simp only; omega
        · simp only [Blk.rowAt] at hi
          cases hx : (l.take len0)[i]? with
          | none => rw [hx] at hi; cases hi
          | some x =>
            rw [hx] at hi; simp at hi; subst hi
            rw [List.getElem?_take] at hx
            split at hx
            · exact hin i x hx j u hu
            · cases hx
    · simp [hl]; omega
    · obtain ⟨i, hi⟩ := List.getElem?_of_mem (List.mem_of_mem_take hx)
      exact (hlp i x hi).1
end
end Go.Proofs.YtdgipcjigbagfaaGreat.AB
