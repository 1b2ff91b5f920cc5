/- The relation between abstract and real states; what a step keeps. -/
import Derived.Test.YtdgipcjigbagfaaGreatFwA
import Derived.Laws.Sem
import Derived.Laws.World
namespace Go.Proofs.YtdgipcjigbagfaaGreat.AB
set_option linter.unusedSimpArgs false

structure Loc where
  blk : Nat
  off : Nat
  size : Nat
  cnt : Nat
  lim : Nat
  fam : List (Nat × Nat)

abbrev Map := Nat → Option Loc

mutual
def VRel (φ : Map) : AVal → Value → Prop
  | .undef, _ => True
  | .bool b, v => v = .bool b
  | .int k n, v => v = .int k n
  | .str s, v => v = .string s
  | .nilp, v => v = .pointer none
  | .ptr b i j, v => ∃ L, φ b = some L ∧ v = .pointer (some ⟨L.blk, L.off + i * L.size + j, none⟩)
  | .fptr b i j, v => ∃ L p, φ b = some L ∧ L.fam[i]? = some p ∧ v = .pointer (some ⟨p.1, p.2 + j, none⟩)
  | .nils, v => v = .slice none 0 0
  | .slice sz b lo len cap, v => ∃ L a c, φ b = some L ∧ v = .slice a len c ∧ L.size = sz ∧ lo + len ≤ L.cnt ∧ len ≤ c ∧ lo + c ≤ L.lim ∧
      (c = 0 ∨ a = some ⟨L.blk, L.off + lo * L.size, none⟩) ∧ (∀ d, cap = some d → c = d)
  | .nili, v => v = .nilIface
  | .iface t x, v => ∃ u, v = .iface t u ∧ VRel φ x u
  | .nilf, v => v = .nilFunc
  | .func f cs, v => ∃ us : List Value, v = .func (.func f) #[] us.toArray ∧ VRels φ cs us
  | .agg cs, v => ∃ us : List Value, v = .agg us.toArray ∧ VRels φ cs us
  | .tuple cs, v => ∃ us : List Value, v = .tuple us.toArray ∧ VRels φ cs us
def VRels (φ : Map) : List AVal → List Value → Prop
  | [], us => us = []
  | a :: as, us => ∃ u us', us = u :: us' ∧ VRel φ a u ∧ VRels φ as us'
end

def Ext (φ φ' : Map) : Prop := ∀ b L, φ b = some L → φ' b = some L
theorem Ext.refl (φ : Map) : Ext φ φ := fun _ _ h => h
theorem Ext.trans {φ φ' φ'' : Map} (h : Ext φ φ') (h' : Ext φ' φ'') : Ext φ φ'' := fun b L x => h' b L (h b L x)

mutual
theorem VRel.ext {φ φ' : Map} (h : Ext φ φ') : ∀ (a : AVal) {v : Value}, VRel φ a v → VRel φ' a v
  | .undef, _, _ => by simp [VRel]
  | .bool _, _, x => by simpa [VRel] using x
  | .int _ _, _, x => by simpa [VRel] using x
  | .str _, _, x => by simpa [VRel] using x
  | .nilp, _, x => by simpa [VRel] using x
  | .ptr _ _ _, _, x => by
    simp only [VRel] at x ⊢
    obtain ⟨L, hL, e⟩ := x
    exact ⟨L, h _ _ hL, e⟩
  | .fptr _ _ _, _, x => by
    simp only [VRel] at x ⊢
    obtain ⟨L, p, hL, e⟩ := x
    exact ⟨L, p, h _ _ hL, e⟩
  | .nils, _, x => by simpa [VRel] using x
  | .slice _ _ _ _ _, _, x => by
    simp only [VRel] at x ⊢
    obtain ⟨L, a, c, hL, e⟩ := x
    exact ⟨L, a, c, h _ _ hL, e⟩
  | .nili, _, x => by simpa [VRel] using x
  | .iface _ y, _, x => by
    simp only [VRel] at x ⊢
    obtain ⟨u, e, hu⟩ := x
    exact ⟨u, e, VRel.ext h y hu⟩
  | .nilf, _, x => by simpa [VRel] using x
  | .func _ cs, _, x => by
    simp only [VRel] at x ⊢
    obtain ⟨us, e, hu⟩ := x
    exact ⟨us, e, VRels.ext h cs hu⟩
  | .agg cs, _, x => by
    simp only [VRel] at x ⊢
    obtain ⟨us, e, hu⟩ := x
    exact ⟨us, e, VRels.ext h cs hu⟩
  | .tuple cs, _, x => by
    simp only [VRel] at x ⊢
    obtain ⟨us, e, hu⟩ := x
    exact ⟨us, e, VRels.ext h cs hu⟩
theorem VRels.ext {φ φ' : Map} (h : Ext φ φ') : ∀ (as : List AVal) {us : List Value}, VRels φ as us → VRels φ' as us
  | [], _, x => by simpa [VRels] using x
  | a :: as, _, x => by
    simp only [VRels] at x ⊢
    obtain ⟨u, us', e, hu, hs⟩ := x
    exact ⟨u, us', e, VRel.ext h a hu, VRels.ext h as hs⟩
end

theorem VRels.length {φ : Map} : ∀ {as : List AVal} {us : List Value}, VRels φ as us → us.length = as.length
  | [], _, x => by simp only [VRels] at x; subst x; rfl
  | a :: as, _, x => by
    simp only [VRels] at x
    obtain ⟨u, us', rfl, _, hs⟩ := x
    simp [VRels.length hs]

theorem VRels.get {φ : Map} : ∀ {as : List AVal} {us : List Value}, VRels φ as us → ∀ (j : Nat) (a : AVal), as[j]? = some a → ∃ u, us[j]? = some u ∧ VRel φ a u
  | [], _, _, j, a, h => by simp at h
  | a :: as, _, x, j, b, h => by
    simp only [VRels] at x
    obtain ⟨u, us', rfl, hu, hs⟩ := x
    cases j with
    | zero => simp at h; subst h; exact ⟨u, rfl, hu⟩
    | succ j => simp only [List.getElem?_cons_succ] at h ⊢; exact VRels.get hs j b h

theorem VRels.of_get {φ : Map} : ∀ {as : List AVal} {us : List Value}, us.length = as.length → (∀ (j : Nat) (a : AVal), as[j]? = some a → ∃ u, us[j]? = some u ∧ VRel φ a u) → VRels φ as us
  | [], us, hl, _ => by simp only [VRels]; exact List.length_eq_zero_iff.mp hl
  | a :: as, us, hl, h => by
    cases us with
    | nil => simp at hl
    | cons u us =>
      simp only [VRels]
      refine ⟨u, us, rfl, ?_, VRels.of_get (by simpa using hl) fun j b hb => ?_⟩
      · obtain ⟨u', e, hu⟩ := h 0 a rfl
        simp at e; subst e; exact hu
      · obtain ⟨u', e, hu⟩ := h (j + 1) b (by simpa using hb)
        exact ⟨u', by simpa using e, hu⟩

theorem VRels.append {φ : Map} {as bs : List AVal} {us vs : List Value} (h : VRels φ as us) (h' : VRels φ bs vs) : VRels φ (as ++ bs) (us ++ vs) := by
  refine VRels.of_get (by simp [h.length, h'.length]) fun j a ha => ?_
  rw [List.getElem?_append] at ha ⊢
  rw [h.length]
  split at ha
  · rename_i hj; rw [if_pos hj]; exact h.get j a ha
  · rename_i hj; rw [if_neg hj]; exact h'.get _ a ha

theorem VRels.take {φ : Map} {as : List AVal} {us : List Value} (h : VRels φ as us) (n : Nat) : VRels φ (as.take n) (us.take n) := by
  refine VRels.of_get (by simp [h.length]) fun j a ha => ?_
  rw [List.getElem?_take] at ha ⊢
  split at ha
  · rename_i hj; rw [if_pos hj]; exact h.get j a ha
  · simp at ha

theorem VRels.drop {φ : Map} {as : List AVal} {us : List Value} (h : VRels φ as us) (n : Nat) : VRels φ (as.drop n) (us.drop n) := by
  refine VRels.of_get (by simp [h.length]) fun j a ha => ?_
  rw [List.getElem?_drop] at ha ⊢
  exact h.get _ a ha

theorem cells_rel {φ : Map} {a : AVal} {v : Value} (h : VRel φ a v) (hu : a ≠ .undef) (ht : ∀ vs, a ≠ .tuple vs) : VRels φ (cellsOf a) v.cells.toList := by
  cases a <;> simp only [VRel] at h
  case undef => exact absurd rfl hu
  case agg cs => obtain ⟨us, rfl, hs⟩ := h; simpa [cellsOf, Value.cells] using hs
  case tuple cs => exact absurd rfl (ht cs)
  case ptr b i j => obtain ⟨L, hL, rfl⟩ := h; simp [cellsOf, Value.cells, VRels, VRel]; exact ⟨L, hL, rfl, rfl⟩
  case fptr b i j => obtain ⟨L, p, hL, hp, rfl⟩ := h; simp only [cellsOf, Value.cells, VRels]; exact ⟨_, _, rfl, by simp only [VRel]; exact ⟨L, p, hL, hp, rfl⟩, rfl⟩
  case slice sz b lo len cap =>
    obtain ⟨L, a, c, hL, rfl, h⟩ := h
    simp only [cellsOf, Value.cells, VRels]
    exact ⟨_, _, rfl, by simp only [VRel]; exact ⟨L, a, c, hL, rfl, h⟩, rfl⟩
  case iface t x => obtain ⟨u, rfl, hx⟩ := h; simp [cellsOf, Value.cells, VRels, VRel, hx]
  case func f cs =>
    obtain ⟨us, rfl, hs⟩ := h
    simp only [cellsOf, Value.cells, VRels]
    exact ⟨_, _, rfl, by simp only [VRel]; exact ⟨us, rfl, hs⟩, rfl⟩
  all_goals subst h; simp [cellsOf, Value.cells, VRels, VRel]

def Blk.size : Blk → Nat
  | .dead => 0
  | .var cs => cs.length
  | .rows c _ _ => c.size
  | .fam .. => 1
  | .cells _ => 1
def Blk.cnt : Blk → Nat
  | .dead => 0
  | .var _ => 1
  | .rows _ l _ => l.length
  | .fam _ _ l _ => l.length
  | .cells cs => cs.length
def Blk.rowAt : Blk → Nat → Option (List AVal)
  | .dead, _ => none
  | .var cs, i => if i = 0 then some cs else none
  | .rows c l _, i => (l[i]?).map c.enc
  | .fam .., _ => none
  | .cells cs, i => (cs[i]?).map fun v => [v]

theorem Cd.enc_length : ∀ (c : Cd) (x : c.El), (c.enc x).length = c.size
  | .int _, _ => rfl
  | .bool, _ => rfl
  | .str, _ => rfl
  | .pair a b, x => by simp [Cd.enc, Cd.size, Cd.enc_length a x.1, Cd.enc_length b x.2]
  | .box t c, x => by cases x <;> rfl

theorem Blk.rowAt_length {b : Blk} {i : Nat} {cs : List AVal} (h : b.rowAt i = some cs) : cs.length = b.size := by
  cases b with
  | dead => simp [Blk.rowAt] at h
  | var cs' => simp [Blk.rowAt] at h; rw [← h.2]; rfl
  | fam t c l f => simp [Blk.rowAt] at h
  | rows c l ro =>
    simp only [Blk.rowAt] at h
    cases hx : l[i]? with
    | none => simp [hx] at h
    | some x => simp [hx] at h; rw [← h]; exact Cd.enc_length c x
  | cells cs' =>
    simp only [Blk.rowAt] at h
    cases hx : cs'[i]? with
    | none => simp [hx] at h
    | some x => simp [hx] at h; rw [← h]; rfl

theorem Blk.rowAt_lt {b : Blk} {i : Nat} {cs : List AVal} (h : b.rowAt i = some cs) : i < b.cnt := by
  cases b with
  | dead => simp [Blk.rowAt] at h
  | var cs' => simp [Blk.rowAt] at h; simp [Blk.cnt]; omega
  | fam t c l f => simp [Blk.rowAt] at h
  | rows c l ro =>
    simp only [Blk.rowAt] at h
    rcases Nat.lt_or_ge i l.length with hl | hl
    · exact hl
    · simp [List.getElem?_eq_none hl] at h
  | cells cs' =>
    simp only [Blk.rowAt] at h
    rcases Nat.lt_or_ge i cs'.length with hl | hl
    · exact hl
    · simp [List.getElem?_eq_none hl] at h

/-- the cells of a block, really -/
structure Lies (φ : Map) (w : World) (b : Blk) (L : Loc) : Prop where
  cnt : b.cnt ≤ L.lim
  here : ∃ arr e fz, w.heap[L.blk]? = some (.cells arr e fz) ∧ L.off + L.lim * L.size ≤ arr.size ∧
    (b.wr = true → ∀ x, ¬ (fz.1 ≤ x ∧ x < fz.2)) ∧
    ∀ i cs, b.rowAt i = some cs → ∀ j a, cs[j]? = some a → ∃ v, arr[L.off + i * L.size + j]? = some v ∧ VRel φ a v

def ownOf (L : Loc) : List Nat := (if L.lim = 0 then [] else [L.blk]) ++ L.fam.map (·.1)

def CellIs (t : Nat) (F : List (Nat × Nat)) : Option Nat → Value → Prop
  | none, v => v = .nilIface
  | some q, v => ∃ p : Nat × Nat, F[q]? = some p ∧ v = .iface t (.pointer (some ⟨p.1, p.2, none⟩))

/-- a row of a family, where it lies -/
def RowIs (w : World) (c : Cd) (x : c.El) (p : Nat × Nat) : Prop :=
  ∃ arr e fz, w.heap[p.1]? = some (.cells arr e fz) ∧ p.2 + c.size ≤ arr.size ∧ (∀ y, ¬ (fz.1 ≤ y ∧ y < fz.2)) ∧
    ∀ j a, (c.enc x)[j]? = some a → ∃ v, arr[p.2 + j]? = some v ∧ VRel (fun _ => none) a v

/-- a slice of pointers and what they point to -/
structure FamIs (w : World) (t : Nat) (c : Cd) (l : List (Option Nat)) (f : List c.El) (L : Loc) : Prop where
  len : L.fam.length = f.length
  nodup : (ownOf L).Nodup
  cells : L.lim ≠ 0 → ∀ arr e fz, w.heap[L.blk]? = some (.cells arr e fz) → ∀ i x, l[i]? = some x → ∃ v, arr[L.off + i]? = some v ∧ CellIs t L.fam x v
  rows : ∀ (q : Nat) (p : Nat × Nat) (x : c.El), L.fam[q]? = some p → f[q]? = some x → RowIs w c x p

def FamOk (w : World) (b : Blk) (L : Loc) : Prop := match b with
  | .fam t c l f => FamIs w t c l f L
  | _ => L.fam = []

def Blk.isFam : Blk → Bool
  | .fam .. => true
  | _ => false

theorem FamOk.not {w : World} {b : Blk} {L : Loc} (h : FamOk w b L) (hb : b.isFam = false) : L.fam = [] := by
  cases b <;> simp [Blk.isFam] at hb <;> exact h
theorem FamOk.of_not {w : World} {b : Blk} {L : Loc} (h : L.fam = []) (hb : b.isFam = false) : FamOk w b L := by
  cases b <;> simp [Blk.isFam] at hb <;> exact h
theorem rowAt_isFam {b : Blk} {i : Nat} {cs : List AVal} (h : b.rowAt i = some cs) : b.isFam = false := by
  cases b <;> simp [Blk.isFam, Blk.rowAt] at h ⊢

/-- a live block lies where the map says -/
def BRel (φ : Map) (w : World) (b : Blk) (o : Option Loc) (own : List Nat) : Prop :=
  b.live = true → ∃ L, o = some L ∧ L.size = b.size ∧ L.cnt = b.cnt ∧ own = ownOf L ∧ b.cnt ≤ L.lim ∧ (L.lim ≠ 0 → Lies φ w b L) ∧ FamOk w b L

theorem BRel.parts {φ : Map} {w : World} {b : Blk} {o : Option Loc} {own : List Nat} (h : BRel φ w b o own) (hl : b.live = true) (hf : b.isFam = false) :
    ∃ L, o = some L ∧ L.size = b.size ∧ L.cnt = b.cnt ∧ ((L.lim = 0 ∧ b.cnt = 0 ∧ own = []) ∨ (own = [L.blk] ∧ Lies φ w b L)) := by
  obtain ⟨L, ho, hs, hc, hown, hcl, hlies, hfam⟩ := h hl
  have hF := hfam.not hf
  refine ⟨L, ho, hs, hc, ?_⟩
  by_cases h0 : L.lim = 0
  · exact .inl ⟨h0, by omega, by rw [hown]; simp [ownOf, h0, hF]⟩
  · exact .inr ⟨by rw [hown]; simp [ownOf, h0, hF], hlies h0⟩

theorem BRel.of {φ : Map} {w : World} {b : Blk} {o : Option Loc} {own : List Nat} {L : Loc} (ho : o = some L) (hs : L.size = b.size) (hc : L.cnt = b.cnt) (hown : own = [L.blk]) (h0 : 0 < L.lim) (h : Lies φ w b L) (hf : L.fam = []) (hb : b.isFam = false) : BRel φ w b o own :=
  fun _ => ⟨L, ho, hs, hc, by rw [hown]; simp [ownOf, hf]; omega, h.cnt, fun _ => h, FamOk.of_not hf hb⟩

theorem RowIs.lt {w : World} {c : Cd} {x : c.El} {p : Nat × Nat} (h : RowIs w c x p) : p.1 < w.heap.size := by
  obtain ⟨arr, e, fz, hh, _⟩ := h
  rcases Nat.lt_or_ge p.1 w.heap.size with h | h
  · exact h
  · rw [Array.getElem?_eq_none h] at hh; cases hh

theorem FamOk.lt {w : World} {b : Blk} {L : Loc} (h : FamOk w b L) : ∀ c ∈ L.fam.map (·.1), c < w.heap.size := by
  intro c hc
  obtain ⟨p, hp, rfl⟩ := List.mem_map.mp hc
  cases b with
  | fam t cd l f =>
    obtain ⟨q, hq⟩ := List.getElem?_of_mem hp
    have hlt : q < f.length := by rw [← h.len]; exact (List.getElem?_eq_some_iff.mp hq).1
    exact (h.rows q p f[q] hq (by simp [hlt])).lt
  | _ => rw [show L.fam = [] from h] at hp; cases hp

theorem BRel.own_lt {φ : Map} {w : World} {b : Blk} {o : Option Loc} {own : List Nat} (h : BRel φ w b o own) (hl : b.live = true) : ∀ c ∈ own, c < w.heap.size := by
  obtain ⟨L, ho, hs, hc, hown, hcl, hlies, hfam⟩ := h hl
  intro c hc
  rw [hown] at hc
  unfold ownOf at hc
  rcases List.mem_append.mp hc with hc | hc
  · by_cases h0 : L.lim = 0
    · simp [h0] at hc
    · simp [h0] at hc; subst hc
      obtain ⟨_, arr, e, fz, hh, _⟩ := hlies h0
      rcases Nat.lt_or_ge L.blk w.heap.size with h | h
      · exact h
      · rw [Array.getElem?_eq_none h] at hh; cases hh
  · exact hfam.lt c hc

theorem RowIs.keep {w w' : World} {c : Cd} {x : c.El} {p : Nat × Nat} (h : RowIs w c x p) (hw : w'.heap[p.1]? = w.heap[p.1]?) : RowIs w' c x p := by
  obtain ⟨arr, e, fz, hh, hr⟩ := h
  exact ⟨arr, e, fz, hw.trans hh, hr⟩

theorem FamOk.keep {w w' : World} {b : Blk} {L : Loc} (h : FamOk w b L) (hw : ∀ c ∈ ownOf L, w'.heap[c]? = w.heap[c]?) : FamOk w' b L := by
  cases b with
  | fam t cd l f =>
    refine ⟨h.len, h.nodup, fun h0 arr e fz hh => h.cells h0 arr e fz ((hw _ (by simp [ownOf, h0])).symm.trans hh), fun q p x hq hx => (h.rows q p x hq hx).keep (hw _ ?_)⟩
    exact List.mem_append.mpr (.inr (List.mem_map.mpr ⟨p, List.mem_of_getElem? hq, rfl⟩))
  | _ => exact h

theorem BRel.keep {φ φ' : Map} {w w' : World} {b : Blk} {o : Option Loc} {own : List Nat} (h : BRel φ w b o own) (he : Ext φ φ')
    (hw : ∀ c ∈ own, w'.heap[c]? = w.heap[c]?) : BRel φ' w' b o own := by
  intro hl
  obtain ⟨L, ho, hs, hc, hown, hcl, hlies, hfam⟩ := h hl
  refine ⟨L, ho, hs, hc, hown, hcl, fun h0 => ?_, hfam.keep (by rw [← hown]; exact hw)⟩
  obtain ⟨hcnt, arr, e, fz, hh, hlim, hfz, hr⟩ := hlies h0
  refine ⟨hcnt, arr, e, fz, (hw _ (by rw [hown]; simp [ownOf, h0])).trans hh, hlim, hfz, fun i cs hi j a ha => ?_⟩
  obtain ⟨v, hv, hvr⟩ := hr i cs hi j a ha
  exact ⟨v, hv, VRel.ext he a hvr⟩

structure SRel (φ : Map) (ψ : Nat → List Nat) (G : Nat → Blk) (w : World) : Prop where
  rel : ∀ b, BRel φ w (G b) (φ b) (ψ b)
  disj : ∀ b b', b ≠ b' → (G b).live = true → (G b').live = true → ((G b).wr = true ∨ (G b').wr = true) → ∀ c ∈ ψ b, c ∉ ψ b'

theorem wr_live {b : Blk} (h : b.wr = true) : b.live = true := by cases b <;> simp_all [Blk.wr, Blk.live]
theorem ro_live {b : Blk} (h : b.ro = true) : b.live = true := by cases b <;> simp_all [Blk.ro, Blk.live]
theorem live_wr_ro {b : Blk} (h : b.live = true) : b.wr = true ∨ b.ro = true := by
  cases b with
  | dead => simp [Blk.live] at h
  | var cs => exact .inl rfl
  | fam t c l f => exact .inl rfl
  | cells cs => exact .inl rfl
  | rows c l ro => cases ro <;> simp [Blk.wr, Blk.ro]

/-- what lies outside memory stays -/
structure Side (w w' : World) : Prop where
  os : w'.os = w.os
  tape : w'.tape = w.tape
  output : w'.output = w.output
theorem Side.refl (w : World) : Side w w := ⟨rfl, rfl, rfl⟩
theorem Side.trans {a b c : World} (h : Side a b) (k : Side b c) : Side a c := ⟨k.os.trans h.os, k.tape.trans h.tape, k.output.trans h.output⟩

/-- where the run of a function began -/
structure Base where
  m : Nat
  φ0 : Map
  W0 : Nat → Prop
  w0 : World
  g0 : Nat → Blk

def Base.ro0 (B : Base) (b : Nat) : Prop := (B.g0 b).ro = true
def Base.d0 (B : Base) (b : Nat) : Prop := (B.g0 b).live = false

structure GI (B : Base) (φ : Map) (ψ : Nat → List Nat) (G : Nat → Blk) (w : World) : Prop where
  s : SRel φ ψ G w
  own : ∀ b, (G b).wr = true → ∀ c ∈ ψ b, B.W0 c ∨ B.w0.heap.size ≤ c
  frame : ∀ c, c < B.w0.heap.size → ¬ B.W0 c → w.heap[c]? = B.w0.heap[c]?
  grow : B.w0.heap.size ≤ w.heap.size
  keep : ∀ b, b < B.m → φ b = B.φ0 b
  ro : ∀ b, (G b).ro = true → b < B.m ∧ B.ro0 b
  ro' : ∀ b, b < B.m → B.ro0 b → (G b).wr = false
  dd : ∀ b, b < B.m → B.d0 b → (G b).live = false
  rq : ∀ b, b < B.m → B.ro0 b → G b = B.g0 b
  out : Side B.w0 w

/-- what a step does to memory: X: ids that are written or given up, N: new ids -/
structure Chg (φ φ' : Map) (ψ ψ' : Nat → List Nat) (G G' : Nat → Blk) (w w' : World) (X N : List Nat) : Prop where
  ext : Ext φ φ'
  map : ∀ b, b ∉ N → φ' b = φ b
  same : ∀ b, b ∉ X → b ∉ N → G' b = G b ∧ ψ' b = ψ b
  fresh : ∀ b, b ∈ N → G b = .dead
  grow : w.heap.size ≤ w'.heap.size
  heap : ∀ c, c < w.heap.size → (∀ b ∈ X, (G b).wr = true → c ∉ ψ b) → w'.heap[c]? = w.heap[c]?
  rel : ∀ b, b ∈ X ∨ b ∈ N → BRel φ' w' (G' b) (φ' b) (ψ' b)
  from_ : ∀ b, b ∈ X ∨ b ∈ N → (G' b).wr = true → ∀ c ∈ ψ' b, w.heap.size ≤ c ∨ ∃ x ∈ X, (G x).wr = true ∧ c ∈ ψ x
  wr : ∀ b, b ∈ X → (G' b).wr = true → (G b).wr = true
  ro : ∀ b, b ∈ X ∨ b ∈ N → (G' b).ro = true → b ∈ X ∧ b ∉ N ∧ (G b).ro = true
  disj : ∀ b b', b ≠ b' → (b ∈ X ∨ b ∈ N) → (b' ∈ X ∨ b' ∈ N) → (G' b).live = true → (G' b').live = true → ((G' b).wr = true ∨ (G' b').wr = true) → ∀ c ∈ ψ' b, c ∉ ψ' b'
  rq : ∀ b, b ∈ X → (G b).ro = true → G' b = G b
  out : Side w w'

theorem GI.step {B : Base} {φ φ' : Map} {ψ ψ' : Nat → List Nat} {G G' : Nat → Blk} {w w' : World} {X N : List Nat}
    (g : GI B φ ψ G w) (h : Chg φ φ' ψ ψ' G G' w w' X N) (hN : ∀ b ∈ N, B.m ≤ b) : GI B φ' ψ' G' w' := by
  have own_lt : ∀ b, (G b).live = true → ∀ c ∈ ψ b, c < w.heap.size := fun b hb => (g.s.rel b).own_lt hb
  have far : ∀ b, b ∉ X → b ∉ N → (G b).live = true → ∀ x ∈ X, (G x).wr = true → ∀ c ∈ ψ b, c ∉ ψ x := by
    intro b hX hN hb x hx hxw c hc
    exact g.s.disj b x (fun e => hX (e ▸ hx)) hb (wr_live hxw) (.inr hxw) c hc
  -- what is only read stays where it is
  have still : ∀ b, (b ∈ X ∨ b ∈ N) → (G' b).ro = true → ψ' b = ψ b := by
    intro b hb hr
    obtain ⟨hX, hN', hro⟩ := h.ro b hb hr
    obtain ⟨L, hL, _, _, hown, _⟩ := h.rel b hb (ro_live hr)
    obtain ⟨L', hL', _, _, hown', _⟩ := g.s.rel b (ro_live hro)
    rw [h.map b hN', hL'] at hL
    injection hL with hL; subst hL
    rw [hown, hown']
  -- changed against unchanged
  have cross : ∀ b b', (b ∈ X ∨ b ∈ N) → b' ∉ X → b' ∉ N → (G' b).live = true → (G b').live = true → ((G' b).wr = true ∨ (G b').wr = true) → ∀ c ∈ ψ' b, c ∉ ψ b' := by
    intro b b' hb hX' hN' hl hl' hw c hc hc'
    rcases live_wr_ro hl with hlw | hlr
    · rcases h.from_ b hb hlw c hc with hf | ⟨x, hx, hxw, hcx⟩
      · have := own_lt b' hl' c hc'; omega
      · exact far b' hX' hN' hl' x hx hxw c hc' hcx
    · obtain ⟨hbX, _, hro⟩ := h.ro b hb hlr
      rw [still b hb hlr] at hc
      have hw' : (G b').wr = true := by
        rcases hw with hw | hw
        · exfalso
          cases hg : G' b with
          | dead => rw [hg] at hw; simp [Blk.wr] at hw
          | var cs => rw [hg] at hlr; simp [Blk.ro] at hlr
          | fam t c l f => rw [hg] at hlr; simp [Blk.ro] at hlr
          | cells cs => rw [hg] at hlr; simp [Blk.ro] at hlr
          | rows c l ro => rw [hg] at hlr hw; simp [Blk.ro, Blk.wr] at hlr hw; simp [hlr] at hw
        · exact hw
      exact g.s.disj b b' (fun e => hX' (e ▸ hbX)) (ro_live hro) hl' (.inr hw') c hc hc'
  refine ⟨⟨fun b => ?_, fun b b' hne hl hl' hw c hc hc' => ?_⟩, fun b hb c hc => ?_, fun c hc hW => ?_, Nat.le_trans g.grow h.grow, fun b hb => ?_, fun b hb => ?_, fun b hb hr => ?_, fun b hb hd => ?_, fun b hb hr => ?_, g.out.trans h.out⟩
  · by_cases hX : b ∈ X ∨ b ∈ N
    · exact h.rel b hX
    · have hX1 : b ∉ X := fun e => hX (.inl e)
      have hN1 : b ∉ N := fun e => hX (.inr e)
      obtain ⟨e1, e2⟩ := h.same b hX1 hN1
      rw [e1, e2, h.map b hN1]
      intro hl
      exact ((g.s.rel b).keep h.ext fun c hc => h.heap c (own_lt b hl c hc) fun x hx hxw => far b hX1 hN1 hl x hx hxw c hc) hl
  · by_cases hX : b ∈ X ∨ b ∈ N <;> by_cases hX' : b' ∈ X ∨ b' ∈ N
    · exact h.disj b b' hne hX hX' hl hl' hw c hc hc'
    · obtain ⟨e1, e2⟩ := h.same b' (fun e => hX' (.inl e)) (fun e => hX' (.inr e))
      rw [e1] at hl' hw; rw [e2] at hc'
      exact cross b b' hX (fun e => hX' (.inl e)) (fun e => hX' (.inr e)) hl hl' hw c hc hc'
    · obtain ⟨e1, e2⟩ := h.same b (fun e => hX (.inl e)) (fun e => hX (.inr e))
      rw [e1] at hl hw; rw [e2] at hc
      exact cross b' b hX' (fun e => hX (.inl e)) (fun e => hX (.inr e)) hl' hl hw.symm c hc' hc
    · obtain ⟨e1, e2⟩ := h.same b (fun e => hX (.inl e)) (fun e => hX (.inr e))
      obtain ⟨e1', e2'⟩ := h.same b' (fun e => hX' (.inl e)) (fun e => hX' (.inr e))
      rw [e1] at hl hw; rw [e2] at hc; rw [e1'] at hl' hw; rw [e2'] at hc'
      exact g.s.disj b b' hne hl hl' hw c hc hc'
  · by_cases hX : b ∈ X ∨ b ∈ N
    · rcases h.from_ b hX hb c hc with hf | ⟨x, hx, hxw, hcx⟩
      · exact .inr (Nat.le_trans g.grow hf)
      · exact g.own x hxw c hcx
    · obtain ⟨e1, e2⟩ := h.same b (fun e => hX (.inl e)) (fun e => hX (.inr e))
      rw [e1] at hb; rw [e2] at hc
      exact g.own b hb c hc
  · rw [h.heap c (Nat.lt_of_lt_of_le hc g.grow) fun b hb hbw hcb => ?_]
    · exact g.frame c hc hW
    · rcases g.own b hbw c hcb with hh | hh
      · exact hW hh
      · omega
  · rw [h.map b (fun e => by have := hN b e; omega)]; exact g.keep b hb
  · by_cases hX : b ∈ X ∨ b ∈ N
    · obtain ⟨_, _, hG⟩ := h.ro b hX hb
      exact g.ro b hG
    · rw [(h.same b (fun e => hX (.inl e)) (fun e => hX (.inr e))).1] at hb; exact g.ro b hb
  · have hN1 : b ∉ N := fun e => by have := hN b e; omega
    by_cases hX : b ∈ X
    · cases hw : (G' b).wr with
      | false => rfl
      | true => have := h.wr b hX hw; rw [g.ro' b hb hr] at this; exact this.symm
    · rw [(h.same b hX hN1).1]; exact g.ro' b hb hr
  · have hN1 : b ∉ N := fun e => by have := hN b e; omega
    by_cases hX : b ∈ X
    · cases hl : (G' b).live with
      | false => rfl
      | true =>
        exfalso
        have h1 := g.dd b hb hd
        rcases live_wr_ro hl with hw | hr
        · rw [wr_live (h.wr b hX hw)] at h1; cases h1
        · rw [ro_live (h.ro b (.inl hX) hr).2.2] at h1; cases h1
    · rw [(h.same b hX hN1).1]; exact g.dd b hb hd
  · have hN1 : b ∉ N := fun e => by have := hN b e; omega
    have h1 := g.rq b hb hr
    by_cases hX : b ∈ X
    · rw [h.rq b hX (by rw [h1]; exact hr)]; exact h1
    · rw [(h.same b hX hN1).1]; exact h1
end Go.Proofs.YtdgipcjigbagfaaGreat.AB
