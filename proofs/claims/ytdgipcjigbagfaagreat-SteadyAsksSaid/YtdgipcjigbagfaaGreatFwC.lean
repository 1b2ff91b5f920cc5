/- The types' table; what the single operations do. -/
import Derived.Test.YtdgipcjigbagfaaGreatFwB
import Derived.Laws.Entries
import Derived.Laws.Cells
import Derived.Laws.AppendOwn
namespace Go.Proofs.YtdgipcjigbagfaaGreat.AB
set_option linter.unusedSimpArgs false
set_option linter.unusedVariables false

/-! types -/
def fldCheck : List (Nat × Nat) → List Field → Bool
  | [], [] => true
  | (t, o) :: r, f :: fs => Nat.beq f.type t && Nat.beq f.offset o && fldCheck r fs
  | _, _ => false

def kdCheck (t : TyI) (d : TypeDesc) : Bool :=
  match t.kd, d with
  | .int k, .int k' => decide (k = k')
  | .bool, .bool => true
  | .str, .string => true
  | .ptr, .pointer _ => true
  | .slice, .slice e => Nat.beq e t.elem
  | .struct, .struct fs => fldCheck t.flds fs.toList
  | .array, .array n e => Nat.beq e t.elem && Nat.beq n t.flds.length
  | .iface, .interface _ => true
  | .func, .func _ _ _ => true
  | _, _ => false

def zCheck : List AVal → List Value → Bool
  | [], [] => true
  | .int k n :: r, .int k' n' :: s => decide (k = k') && decide (n = n') && zCheck r s
  | .bool b :: r, .bool b' :: s => (b == b') && zCheck r s
  | .str x :: r, .string y :: s => (x.data.toList.isEmpty && y.data.toList.isEmpty) && zCheck r s
  | .nils :: r, .slice none 0 0 :: s => zCheck r s
  | .nilp :: r, .pointer none :: s => zCheck r s
  | .nili :: r, .nilIface :: s => zCheck r s
  | .nilf :: r, .nilFunc :: s => zCheck r s
  | _, _ => false

def isAggV : Value → Bool
  | .agg _ => true
  | _ => false

def plainKd : TyK → Bool
  | .int _ => true
  | .bool => true
  | .str => true
  | _ => false

def tyCheck (P : Program) (ti : Nat → TyI) (T : Nat) : Bool :=
  match (ti T).kd with
  | .other => true
  | _ => match P.info? T, P.underlying T with
    | some i, some d => kdCheck (ti T) d && Nat.beq i.size (ti T).size && Nat.beq i.bytes (ti T).bytes &&
        (match i.zero with | some z => zCheck (ti T).zero z.cells.toList && (isAggV z == (ti T).agg) | none => false) &&
        (!(ti T).eq || (!P.stoodInHeld T && !P.eqGuardType P.depth T && (match d with | .struct fs => fs.toList.all (fun f => !(f.name == "_")) | _ => false) &&
          (ti T).flds.all (fun p => plainKd (ti p.1).kd && Nat.beq (ti p.1).size 1)))
    | _, _ => false

def KdRel (t : TyI) (d : TypeDesc) : Prop :=
  match t.kd with
  | .int k => d = .int k
  | .bool => d = .bool
  | .str => d = .string
  | .ptr => ∃ e, d = .pointer e
  | .slice => d = .slice t.elem
  | .struct => ∃ fs, d = .struct fs ∧ fldCheck t.flds fs.toList = true
  | .array => d = .array t.flds.length t.elem
  | .iface => ∃ ms, d = .interface ms
  | .func => ∃ a b c, d = .func a b c
  | .other => False

structure TyOk1 (P : Program) (ti : Nat → TyI) (T : Nat) (i : TypeInfo) (d : TypeDesc) (z : Value) : Prop where
  info : P.info? T = some i
  und : P.underlying T = some d
  kd : KdRel (ti T) d
  size : i.size = (ti T).size
  bytes : i.bytes = (ti T).bytes
  zero : i.zero = some z
  zrel : ∀ φ, VRels φ (ti T).zero z.cells.toList
  zagg : isAggV z = (ti T).agg
  eq : (ti T).eq = true → P.stoodInHeld T = false ∧ P.eqGuardType P.depth T = false ∧ (∃ fs, d = .struct fs ∧ fs.toList.all (fun f => !(f.name == "_")) = true) ∧
    (ti T).flds.all (fun p => plainKd (ti p.1).kd && Nat.beq (ti p.1).size 1) = true

def TyOk (P : Program) (ti : Nat → TyI) : Prop := ∀ T, (ti T).kd ≠ .other → ∃ i d z, TyOk1 P ti T i d z

theorem bytes_of_empty {x y : ByteArray} (h : (x.data.toList.isEmpty && y.data.toList.isEmpty) = true) : x = y := by
  simp only [Bool.and_eq_true, List.isEmpty_iff] at h
  cases x with
  | mk x => cases y with
    | mk y =>
      simp at h
      simp [h.1, h.2]

theorem zCheck_rel (φ : Map) (as : List AVal) (us : List Value) (h : zCheck as us = true) : VRels φ as us := by
  fun_induction zCheck as us
  case case1 => simp [VRels]
  case case4 x r y s ih =>
    simp only [Bool.and_eq_true] at h
    have e := bytes_of_empty (x := x) (y := y) (by simp only [Bool.and_eq_true]; exact h.1)
    subst e
    simp only [VRels, VRel]
    exact ⟨_, _, rfl, rfl, ih h.2⟩
  all_goals (simp_all [VRels, VRel] <;> exact ⟨_, _, ⟨rfl, rfl⟩, rfl, by assumption⟩)

theorem kdCheck_rel {t : TyI} {d : TypeDesc} (h : kdCheck t d = true) : KdRel t d := by
  unfold kdCheck at h
  unfold KdRel
  split at h <;> simp_all

theorem tyOk_of_check {P : Program} {ti : Nat → TyI} (h : ∀ T, tyCheck P ti T = true) : TyOk P ti := by
  intro T hT
  have h := h T
  unfold tyCheck at h
  split at h
  · rename_i hk; exact absurd hk hT
  · split at h
    · rename_i i d hi hd
      simp only [Bool.and_eq_true] at h
      obtain ⟨⟨⟨⟨hk, hs⟩, hb⟩, hz⟩, he⟩ := h
      split at hz
      · rename_i z hz0
        simp only [Bool.and_eq_true, beq_iff_eq] at hz
        refine ⟨i, d, z, hi, hd, kdCheck_rel hk, Nat.eq_of_beq_eq_true hs, Nat.eq_of_beq_eq_true hb, hz0, fun φ => zCheck_rel φ _ _ hz.1, hz.2, fun heq => ?_⟩
        simp only [heq, Bool.not_true, Bool.false_or, Bool.and_eq_true] at he
        obtain ⟨⟨⟨h1, h2⟩, h3⟩, h4⟩ := he
        refine ⟨by simpa using h1, by simpa using h2, ?_, h4⟩
        split at h3
        · rename_i fs; exact ⟨fs, rfl, h3⟩
        · cases h3
      · cases hz
    · cases h

def tyChecks (P : Program) (tis : List TyI) : Nat → Bool
  | 0 => true
  | n + 1 => tyCheck P (tyAt tis) n && tyChecks P tis n

theorem tyAt_past : ∀ (l : List TyI) (n : Nat), l.length ≤ n → tyAt l n = tyNone
  | [], _, _ => rfl
  | _ :: l, 0, h => by simp at h
  | _ :: l, n + 1, h => tyAt_past l n (by simpa using h)

theorem tyOk_of_checks {P : Program} {tis : List TyI} (h : tyChecks P tis tis.length = true) : TyOk P (tyAt tis) := by
  have key : ∀ n, tyChecks P tis n = true → ∀ T, T < n → tyCheck P (tyAt tis) T = true := by
    intro n
    induction n with
    | zero => intro _ T hT; omega
    | succ n ih =>
      intro h T hT
      simp only [tyChecks, Bool.and_eq_true] at h
      rcases Nat.lt_or_ge T n with hl | hl
      · exact ih h.2 T hl
      · have : T = n := by omega
        subst this; exact h.1
  refine tyOk_of_check fun T => ?_
  rcases Nat.lt_or_ge T tis.length with hl | hl
  · exact key _ h T hl
  · unfold tyCheck; rw [tyAt_past _ _ hl]; rfl

/-! what an operation does to the abstract memory -/
def upd (G : Nat → Blk) (b : Nat) (x : Blk) : Nat → Blk := fun c => if c = b then x else G c

structure SetRow (blk : Blk) (i : Nat) (row : List AVal) (blk' : Blk) : Prop where
  size : blk'.size = blk.size
  cnt : blk'.cnt = blk.cnt
  wr : blk'.wr = blk.wr
  ro : blk'.ro = blk.ro
  at_ : blk'.rowAt i = some row
  other : ∀ k, k ≠ i → blk'.rowAt k = blk.rowAt k

def RowsAre (c : Cd) (G : Nat → Blk) (x : Option (Nat × Nat × Nat)) (l : List c.El) : Prop :=
  match x with
  | none => l = []
  | some (b, lo, n) => ∃ l0 ro, G b = .rows c l0 ro ∧ l = cutL l0 lo n

def idOf : Option (Nat × Nat × Nat) → List Nat
  | none => []
  | some (b, _, _) => [b]


/-! renaming -/
mutual
theorem VRel.ren {φ φ' : Map} {ρ : Nat → Option Nat} (h : ∀ b c L, ρ b = some c → φ b = some L → φ' c = some L) : ∀ (a : AVal) {v : Value}, VRel φ a v → VRel φ' (renV ρ a) v
  | .undef, _, _ => by simp [renV, VRel]
  | .bool _, _, x => by simpa [renV, VRel] using x
  | .int _ _, _, x => by simpa [renV, VRel] using x
  | .str _, _, x => by simpa [renV, VRel] using x
  | .nilp, _, x => by simpa [renV, VRel] using x
  | .ptr b i j, _, x => by
    simp only [VRel] at x
    obtain ⟨L, hL, e⟩ := x
    simp only [renV]
    split
    · rename_i c hc; simp only [VRel]; exact ⟨L, h _ _ _ hc hL, e⟩
    · simp [VRel]
  | .fptr b i j, _, x => by
    simp only [VRel] at x
    obtain ⟨L, p, hL, e⟩ := x
    simp only [renV]
    split
    · rename_i c hc; simp only [VRel]; exact ⟨L, p, h _ _ _ hc hL, e⟩
    · simp [VRel]
  | .nils, _, x => by simpa [renV, VRel] using x
  | .slice sz b lo len cap, _, x => by
    simp only [VRel] at x
    obtain ⟨L, a, c, hL, e, h1, h2, h3, h4, h5, h6⟩ := x
    simp only [renV]
    split
    · rename_i c' hc; simp only [VRel]; exact ⟨L, a, c, h _ _ _ hc hL, e, h1, h2, h3, h4, h5, by simp⟩
    · simp [VRel]
  | .nili, _, x => by simpa [renV, VRel] using x
  | .iface _ y, _, x => by
    simp only [renV, VRel] at x ⊢
    obtain ⟨u, e, hu⟩ := x
    exact ⟨u, e, VRel.ren h y hu⟩
  | .nilf, _, x => by simpa [renV, VRel] using x
  | .func _ cs, _, x => by
    simp only [renV, VRel] at x ⊢
    obtain ⟨us, e, hu⟩ := x
    exact ⟨us, e, VRels.ren h cs hu⟩
  | .agg cs, _, x => by
    simp only [renV, VRel] at x ⊢
    obtain ⟨us, e, hu⟩ := x
    exact ⟨us, e, VRels.ren h cs hu⟩
  | .tuple cs, _, x => by
    simp only [renV, VRel] at x ⊢
    obtain ⟨us, e, hu⟩ := x
    exact ⟨us, e, VRels.ren h cs hu⟩
theorem VRels.ren {φ φ' : Map} {ρ : Nat → Option Nat} (h : ∀ b c L, ρ b = some c → φ b = some L → φ' c = some L) : ∀ (as : List AVal) {us : List Value}, VRels φ as us → VRels φ' (renVs ρ as) us
  | [], _, x => by simpa [renVs, VRels] using x
  | a :: as, _, x => by
    simp only [renVs, VRels] at x ⊢
    obtain ⟨u, us', e, hu, hs⟩ := x
    exact ⟨u, us', e, VRel.ren h a hu, VRels.ren h as hs⟩
end

theorem renVs_length (ρ : Nat → Option Nat) : ∀ l, (renVs ρ l).length = l.length
  | [] => rfl
  | _ :: l => by simp [renVs, renVs_length ρ l]

theorem renVs_get (ρ : Nat → Option Nat) : ∀ (l : List AVal) (j : Nat), (renVs ρ l)[j]? = (l[j]?).map (renV ρ)
  | [], j => by simp [renVs]
  | a :: l, 0 => by simp [renVs]
  | a :: l, j + 1 => by simp [renVs, renVs_get ρ l j]

/-- an element's cells lead nowhere -/
theorem Cd.enc_flat : ∀ (c : Cd) (x : c.El) (a : AVal), a ∈ c.enc x → ∀ (φ φ' : Map) (v : Value), VRel φ a v → VRel φ' a v
  | .int k, n, a, ha, φ, φ', v, h => by simp [Cd.enc] at ha; subst ha; simpa [VRel] using h
  | .bool, n, a, ha, φ, φ', v, h => by simp [Cd.enc] at ha; subst ha; simpa [VRel] using h
  | .str, n, a, ha, φ, φ', v, h => by simp [Cd.enc] at ha; subst ha; simpa [VRel] using h
  | .pair p q, x, a, ha, φ, φ', v, h => by
    simp only [Cd.enc, List.mem_append] at ha
    rcases ha with ha | ha
    · exact Cd.enc_flat p x.1 a ha φ φ' v h
    · exact Cd.enc_flat q x.2 a ha φ φ' v h
  | .box t c, x, a, ha, φ, φ', v, h => by
    cases x with
    | none => simp [Cd.enc] at ha; subst ha; simpa [VRel] using h
    | some y =>
      simp [Cd.enc] at ha; subst ha
      simp only [VRel] at h ⊢
      obtain ⟨u, e, us, e', hs⟩ := h
      refine ⟨u, e, us, e', VRels.of_get hs.length fun j b hb => ?_⟩
      obtain ⟨u', hu', hr⟩ := hs.get j b hb
      exact ⟨u', hu', Cd.enc_flat c y b (List.mem_of_getElem? hb) φ φ' u' hr⟩

theorem renB_size (ρ : Nat → Option Nat) (b : Blk) : (renB ρ b).size = b.size := by cases b <;> simp [renB, Blk.size, renVs_length]
theorem renB_cnt (ρ : Nat → Option Nat) (b : Blk) : (renB ρ b).cnt = b.cnt := by cases b <;> simp [renB, Blk.cnt, renVs_length]
theorem renB_live (ρ : Nat → Option Nat) (b : Blk) : (renB ρ b).live = b.live := by cases b <;> simp [renB, Blk.live]
theorem renB_wr (ρ : Nat → Option Nat) (b : Blk) : (renB ρ b).wr = b.wr := by cases b <;> simp [renB, Blk.wr]
theorem renB_ro (ρ : Nat → Option Nat) (b : Blk) : (renB ρ b).ro = b.ro := by cases b <;> simp [renB, Blk.ro]

theorem BRel.ren {φ φ' : Map} {w : World} {b : Blk} {o : Option Loc} {own : List Nat} {ρ : Nat → Option Nat}
    (h : ∀ b c L, ρ b = some c → φ b = some L → φ' c = some L) (hb : BRel φ w b o own) : BRel φ' w (renB ρ b) o own := by
  intro hl
  rw [renB_live] at hl
  obtain ⟨L, ho, hs, hc, hown, hcl, hlies, hfam⟩ := hb hl
  refine ⟨L, ho, by rw [renB_size, hs], by rw [renB_cnt, hc], hown, by rw [renB_cnt]; exact hcl, fun h0 => ?_, by cases b <;> exact hfam⟩
  obtain ⟨hcnt, arr, e, fz, hh, hlim, hfz, hrow⟩ := hlies h0
  refine ⟨by rw [renB_cnt]; exact hcnt, arr, e, fz, hh, hlim, by rw [renB_wr]; exact hfz, fun i cs hi j a ha => ?_⟩
  cases b with
  | dead => simp [renB, Blk.rowAt] at hi
  | var cs0 =>
    simp only [renB, Blk.rowAt] at hi
    split at hi
    · rename_i hi0
      simp at hi; subst hi
      rw [renVs_get] at ha
      cases hx : cs0[j]? with
      | none => simp [hx] at ha
      | some x =>
        simp [hx] at ha; subst ha
        obtain ⟨v, hv, hvr⟩ := hrow i cs0 (by simp [Blk.rowAt, hi0]) j x hx
        exact ⟨v, hv, VRel.ren h x hvr⟩
    · cases hi
  | fam t c l f => simp [renB, Blk.rowAt] at hi
  | cells cs0 =>
    simp only [renB, Blk.rowAt] at hi
    rw [renVs_get] at hi
    cases hx : cs0[i]? with
    | none => simp [hx] at hi
    | some x =>
      simp [hx] at hi; subst hi
      cases j with
      | zero =>
        simp at ha; subst ha
        obtain ⟨v, hv, hvr⟩ := hrow i [x] (by simp [Blk.rowAt, hx]) 0 x rfl
        exact ⟨v, hv, VRel.ren h x hvr⟩
      | succ j => simp at ha
  | rows c l ro =>
    obtain ⟨v, hv, hvr⟩ := hrow i cs hi j a ha
    refine ⟨v, hv, ?_⟩
    simp only [renB, Blk.rowAt] at hi
    cases hx : l[i]? with
    | none => simp [hx] at hi
    | some x =>
      simp [hx] at hi; subst hi
      exact Cd.enc_flat c x a (List.mem_of_getElem? ha) φ φ' v hvr

/-! calls -/
def Callable (P : Program) (f : Nat) : Prop := ∃ fn c, P.funcs[f]? = some fn ∧ fn.body = some c ∧ (fn.name == "runtime.NumGoroutine") = false

def baseOf (σ : List Blk) (φ : Map) (ψ : Nat → List Nat) (w : World) : Base :=
  ⟨σ.length, φ, fun c => ∃ b, b < σ.length ∧ (getB σ b).wr = true ∧ c ∈ ψ b, w, getB σ⟩

def ACalls (P : Program) (f : Nat) (args : List AVal) (σ : List Blk) (v : AVal) (σ' : List Blk) : Prop :=
  σ.length ≤ σ'.length ∧ (∀ b, b < σ.length → (getB σ b).wr = false → getB σ' b = getB σ b) ∧ ∀ φ ψ w cargs, SRel φ ψ (getB σ) w → (∀ b, φ b ≠ none → b < σ.length) → VRels φ args cargs →
    Calls P f cargs.toArray w fun e w' => ∃ φ' ψ' cv, e = .returned cv ∧ VRel φ' v cv ∧ GI (baseOf σ φ ψ w) φ' ψ' (getB σ') w' ∧ (∀ b, φ' b ≠ none → b < σ'.length)

def callG (G : Nat → Blk) (ids : List Nat) (n : Nat) (σ' : List Blk) : Nat → Blk := fun b => match idx b ids 0 with
  | some j => renB (backId ids n) (getB σ' j)
  | none => if n ≤ b ∧ b < n + (σ'.length - ids.length) then renB (backId ids n) (getB σ' (b - n + ids.length)) else G b

inductive PStep (P : Program) : Prim → (Nat → Blk) → Nat → AVal → (Nat → Blk) → List Nat → List Nat → Nat → Prop
  | ret (v G n) : PStep P (.ret v) G n v G [] [] 0
  | rd (b i f G n cs v) : (G b).rowAt i = some cs → f cs = some v → PStep P (.rd b i f) G n v G [b] [] 0
  | wr (b i j cs G n old blk') : (G b).rowAt i = some old → j + cs.length ≤ old.length → (G b).wr = true → SetRow (G b) i (old.take j ++ cs ++ old.drop (j + cs.length)) blk' →
      PStep P (.wr b i j cs) G n (.tuple []) (upd G b blk') [] [b] 0
  | new (blk v G n) : blk.wr = true → PStep P (.new blk v) G n (v n) (upd G n blk) [] [n] 1
  | app (c x y G n l l2) : RowsAre c G x l → RowsAre c G y l2 → PStep P (.app c x false y) G n (.slice c.size n 0 (l ++ l2).length none) (upd G n (.rows c (l ++ l2) false)) (idOf x ++ idOf y) [n] 1
  | appk (c b lo len y G n l l2) : RowsAre c G (some (b, lo, len)) l → RowsAre c G y l2 → (G b).wr = true → b < n →
      PStep P (.app c (some (b, lo, len)) true y) G n (.slice c.size n 0 (l ++ l2).length none) (upd (upd G b .dead) n (.rows c (l ++ l2) false)) (idOf y) [b, n] 1
  | fill (b lo m cs c l x G n) : G b = .rows c l false → c.enc x = cs → lo + m ≤ l.length → PStep P (.fill b lo m cs) G n (.tuple []) (upd G b (.rows c (l.take lo ++ fillRows x m (l.drop lo)) false)) [] [b] 0
  | rdS (b i f G n t c l fm x v) : G b = .fam t c l fm → l[i]? = some x → f (cellA t b x) = some v → PStep P (.rd b i f) G n v G [b] [] 0
  | wrS (b i cs G n t c l fm x) : G b = .fam t c l fm → i < l.length → cellA t b x = cs → PStep P (.wr b i 0 cs) G n (.tuple []) (upd G b (.fam t c (l.set i x) fm)) [] [b] 0
  | fillS (b lo m cs G n t c l fm) : G b = .fam t c l fm → cs = [.nili] → lo + m ≤ l.length → PStep P (.fill b lo m cs) G n (.tuple []) (upd G b (.fam t c (l.take lo ++ fillRows none m (l.drop lo)) fm)) [] [b] 0
  | rdF (b i f G n t c l fm x v) : G b = .fam t c l fm → fm[i]? = some x → f (c.enc x) = some v → PStep P (.rdF b i f) G n v G [b] [] 0
  | wrF (b i j cs G n t c l fm y x) : G b = .fam t c l fm → fm[i]? = some y → j + cs.length ≤ c.size → c.enc x = (c.enc y).take j ++ cs ++ (c.enc y).drop (j + cs.length) →
      PStep P (.wrF b i j cs) G n (.tuple []) (upd G b (.fam t c l (fm.set i x))) [] [b] 0
  | famNew (t c b G n cs x) : G b = .var cs → c.enc x = cs → b < n → PStep P (.famNew t c b) G n (.slice 1 n 0 1 (some 1)) (upd (upd G b .dead) n (.fam t c [some 0] [x])) [] [b, n] 1
  | appF0 (c kill b2 lo2 m G n t d l2 f2) : G b2 = .fam t d l2 f2 → b2 < n →
      PStep P (.app c none kill (some (b2, lo2, m))) G n (.slice c.size n 0 (cutL l2 lo2 m).length none) (upd (upd G b2 .dead) n (.fam t d (cutL l2 lo2 m) f2)) [] [b2, n] 1
  | appF (c kill b lo len b2 lo2 m G n t d l f l2 f2) : G b = .fam t d l f → G b2 = .fam t d l2 f2 → b ≠ b2 → b < n → b2 < n →
      PStep P (.app c (some (b, lo, len)) kill (some (b2, lo2, m))) G n (.slice c.size n 0 (cutL l lo len ++ (cutL l2 lo2 m).map (shiftF f.length)).length none)
        (upd (upd (upd G b .dead) b2 .dead) n (.fam t d (cutL l lo len ++ (cutL l2 lo2 m).map (shiftF f.length)) (f ++ f2))) [] [b, b2, n] 1
  | call (f args G n ids v' σ' W) : ids.Nodup → (∀ b ∈ ids, b < n) → Callable P f →
      ACalls P f (renVs (fun x => idx x ids 0) args) (ids.map fun b => renB (fun x => idx x ids 0) (G b)) v' σ' →
      (∀ b ∈ W, b ∈ ids ∧ (G b).wr = true) → (∀ b ∈ ids, b ∉ W → callG G ids n σ' b = G b) →
      PStep P (.call f args) G n (renV (backId ids n) v')
        (callG G ids n σ')
        ids (W ++ (List.range (σ'.length - ids.length)).map (n + ·)) (σ'.length - ids.length)

/-- the operation does what the primitive step says -/
def Impl (P : Program) (o : Oper) (ρ : Operand → AVal) (p : Prim) : Prop :=
  ∀ (B : Base) (φ : Map) (ψ : Nat → List Nat) (G : Nat → Blk) (w : World) (a : Act) (n : Nat) (v : AVal) (G' : Nat → Blk) (rd wr : List Nat) (nn : Nat),
    (∀ x ∈ o.op.operands.toList, VRel φ (ρ x) (a.eval x)) → GI B φ ψ G w → (∀ b, n ≤ b → b < n + nn → φ b = none ∧ G b = .dead) → B.m ≤ n →
    PStep P p G n v G' rd wr nn →
    ∀ next Q, (∀ φ' ψ' w' cv, GI B φ' ψ' G' w' → Ext φ φ' → (∀ b, φ' b ≠ none → φ b ≠ none ∨ (n ≤ b ∧ b < n + nn)) → VRel φ' v cv → next (a.put o.dst cv) w') → o.wp P a w next Q
end Go.Proofs.YtdgipcjigbagfaaGreat.AB
