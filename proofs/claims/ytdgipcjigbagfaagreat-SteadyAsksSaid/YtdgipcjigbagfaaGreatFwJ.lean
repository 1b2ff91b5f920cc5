/- Cuts, append, clear, calls. -/
import Derived.Test.YtdgipcjigbagfaaGreatFwI
namespace Go.Proofs.YtdgipcjigbagfaaGreat.AB
set_option linter.unusedSimpArgs false
set_option linter.unusedVariables false
variable {P : Program} {ti : Nat → TyI} {o : Oper} {ρ : Operand → AVal}

/-- bounds of a cut, as the model asks them -/
theorem run_bounds (isSl : Bool) {lo hi : Option Value} {len cap : Nat} {l h : Nat} (hh : h ≤ cap) (hl : l ≤ h)
    (h1 : (hi = none ∧ h = len) ∨ ∃ k, hi = some (.int k (h : Int))) (h2 : (lo = none ∧ l = 0) ∨ ∃ k, lo = some (.int k (l : Int))) (w : World) :
    (Instr.sliceBounds isSl len cap lo hi none).run P w = .ok (l, h, cap) w := by
  unfold Instr.sliceBounds
  rcases h1 with ⟨rfl, rfl⟩ | ⟨k, rfl⟩ <;> rcases h2 with ⟨rfl, rfl⟩ | ⟨k', rfl⟩ <;> simp [Instr.sliceBound, asIntOf] <;> (try rw [if_pos (by omega)]) <;> (try simp) <;> (try rw [if_pos (by omega)]) <;> (try simp) <;> (try (intro hlt; omega))

theorem impl_cut_slice (hti : TyOk P ti) {T : TypeId} {x : Operand} {lo hi : Option Operand} {sz b l0 len : Nat} {cap : Option Nat} {l h : Nat} (ho : o.op = .slice T x lo hi none) (hk : (ti T).kd = .slice)
    (hkn : (ti (ti T).elem).kd ≠ .other) (hsz : sz = (ti (ti T).elem).size) (hx : ρ x = .slice sz b l0 len cap) (hh : h ≤ len) (hl : l ≤ h)
    (h1 : (hi = none ∧ h = len) ∨ ∃ y k, hi = some y ∧ ρ y = .int k (h : Int)) (h2 : (lo = none ∧ l = 0) ∨ ∃ y k, lo = some y ∧ ρ y = .int k (l : Int)) :
    Impl P o ρ (.ret (.slice sz b (l + l0) (h - l) (cap.map (· - l)))) :=
  impl_ret fun φ a w hρ => by
    have hv := hρ x (by simp [ho, Op.operands])
    rw [hx] at hv
    simp only [VRel] at hv
    obtain ⟨L, ad, c, hL, hv, hs, hcnt, hlc, hlim, had, hcap⟩ := hv
    have hb := run_bounds (P := P) true (lo := lo.map a.eval) (hi := hi.map a.eval) (len := len) (cap := c) (l := l) (h := h) (by omega) hl
      (by
        rcases h1 with ⟨rfl, rfl⟩ | ⟨y, k, rfl, hy⟩
        · exact .inl ⟨rfl, rfl⟩
        · have := hρ y (by simp [ho, Op.operands]); rw [hy] at this; simp only [VRel] at this
          exact .inr ⟨k, by simp [this]⟩)
      (by
        rcases h2 with ⟨rfl, rfl⟩ | ⟨y, k, rfl, hy⟩
        · exact .inl ⟨rfl, rfl⟩
        · have := hρ y (by simp [ho, Op.operands]); rw [hy] at this; simp only [VRel] at this
          exact .inr ⟨k, by simp [this]⟩) w
    refine ⟨.slice (if c = l then ad else ad.map (·.add (l * (ti (ti T).elem).size))) (h - l) (c - l), ?_, ?_⟩
    · simp only [execOp, ho, Instr.sliceAt, Instr.slice, Sem.run_bind, run_underlying (und_slice hti hk), Result.andThen_ok, hv, Option.map_none, hb, run_sizeOf hti hkn, Sem.run_pure]
    · simp only [VRel]
      refine ⟨L, _, c - l, hL, rfl, hs, by omega, by omega, by omega, ?_, fun d hd => ?_⟩
      · by_cases hcl : c = l
        · left; omega
        · right
          rw [if_neg hcl]
          rcases had with h0 | h0
          · omega
          · subst h0
            simp [add_none, ← hsz, ← hs, Nat.add_mul]; omega
      · cases cap with
        | none => simp at hd
        | some d' => simp at hd; have := hcap d' rfl; omega

theorem impl_cut_nil (hti : TyOk P ti) {T : TypeId} {x : Operand} {lo hi : Option Operand} (ho : o.op = .slice T x lo hi none) (hk : (ti T).kd = .slice) (hkn : (ti (ti T).elem).kd ≠ .other) (hx : ρ x = .nils)
    (h1 : hi = none ∨ ∃ y k, hi = some y ∧ ρ y = .int k 0) (h2 : lo = none ∨ ∃ y k, lo = some y ∧ ρ y = .int k 0) : Impl P o ρ (.ret .nils) :=
  impl_ret fun φ a w hρ => by
    have hv := hρ x (by simp [ho, Op.operands])
    rw [hx] at hv
    simp only [VRel] at hv
    have hb := run_bounds (P := P) true (lo := lo.map a.eval) (hi := hi.map a.eval) (len := 0) (cap := 0) (l := 0) (h := 0) (Nat.le_refl _) (Nat.le_refl _)
      (by
        rcases h1 with rfl | ⟨y, k, rfl, hy⟩
        · exact .inl ⟨rfl, rfl⟩
        · have := hρ y (by simp [ho, Op.operands]); rw [hy] at this; simp only [VRel] at this
          exact .inr ⟨k, by simp [this]⟩)
      (by
        rcases h2 with rfl | ⟨y, k, rfl, hy⟩
        · exact .inl ⟨rfl, rfl⟩
        · have := hρ y (by simp [ho, Op.operands]); rw [hy] at this; simp only [VRel] at this
          exact .inr ⟨k, by simp [this]⟩) w
    refine ⟨.slice none 0 0, ?_, by simp only [VRel]⟩
    simp only [execOp, ho, Instr.sliceAt, Instr.slice, Sem.run_bind, run_underlying (und_slice hti hk), Result.andThen_ok, hv, Option.map_none, hb, run_sizeOf hti hkn, Sem.run_pure]
    simp

theorem impl_index_str (hti : TyOk P ti) {T : TypeId} {x ix : Operand} {s : ByteArray} {k : IntKind} {n : Int} (ho : o.op = .index T x ix) (hk : (ti T).kd = .str)
    (hx : ρ x = .str s) (hi : ρ ix = .int k n) (hin : inB n s.size = true) : Impl P o ρ (.ret (.int .u8 (byteAt s n.toNat))) :=
  impl_ret fun φ a w h => by
    have h1 := h x (by simp [ho, Op.operands])
    have h2 := h ix (by simp [ho, Op.operands])
    rw [hx] at h1
    rw [hi] at h2
    simp only [VRel] at h1 h2
    unfold inB at hin
    have hin' := of_decide_eq_true hin
    refine ⟨.int .u8 (byteAt s n.toNat), ?_, by simp only [VRel]⟩
    have e : byteAt s n.toNat = ((s[n.toNat]'(by omega)).toNat : Int) := by
      unfold byteAt
      have hlt : n.toNat < s.data.toList.length := by have : s.size = s.data.toList.length := rfl; omega
      rw [List.getD_eq_getElem?_getD, List.getElem?_eq_getElem hlt]
      rfl
    rw [e]
    have hr := run_index_string (P := P) w T s k n (und_str hti hk)
    rw [dif_pos hin'] at hr
    simp only [execOp, ho, h1, h2, Sem.run_bind, hr, Result.andThen_ok, Sem.run_pure]

theorem impl_cut_str (hti : TyOk P ti) {T : TypeId} {x : Operand} {lo hi : Option Operand} {s : ByteArray} {l h : Nat} (ho : o.op = .slice T x lo hi none) (hk : (ti T).kd = .str)
    (hx : ρ x = .str s) (hh : h ≤ s.size) (hl : l ≤ h)
    (h1 : (hi = none ∧ h = s.size) ∨ ∃ y k, hi = some y ∧ ρ y = .int k (h : Int)) (h2 : (lo = none ∧ l = 0) ∨ ∃ y k, lo = some y ∧ ρ y = .int k (l : Int)) :
    Impl P o ρ (.ret (.str (s.extract l h))) :=
  impl_ret fun φ a w hρ => by
    have hv := hρ x (by simp [ho, Op.operands])
    rw [hx] at hv
    simp only [VRel] at hv
    have hb := run_bounds (P := P) false (lo := lo.map a.eval) (hi := hi.map a.eval) (len := s.size) (cap := s.size) (l := l) (h := h) hh hl
      (by
        rcases h1 with ⟨rfl, rfl⟩ | ⟨y, k, rfl, hy⟩
        · exact .inl ⟨rfl, rfl⟩
        · have := hρ y (by simp [ho, Op.operands]); rw [hy] at this; simp only [VRel] at this
          exact .inr ⟨k, by simp [this]⟩)
      (by
        rcases h2 with ⟨rfl, rfl⟩ | ⟨y, k, rfl, hy⟩
        · exact .inl ⟨rfl, rfl⟩
        · have := hρ y (by simp [ho, Op.operands]); rw [hy] at this; simp only [VRel] at this
          exact .inr ⟨k, by simp [this]⟩) w
    refine ⟨.string (s.extract l h), ?_, by simp only [VRel]⟩
    simp only [execOp, ho, Instr.sliceAt, Instr.slice, Sem.run_bind, run_underlying (und_str hti hk), Result.andThen_ok, hv, Option.map_none, hb, Sem.run_pure]
    simp [hb]

/-! append -/
theorem enc_scal : ∀ (c : Cd) (x : c.El), scals (c.enc x) = true
  | .int _, _ => rfl
  | .bool, _ => rfl
  | .str, _ => rfl
  | .pair a b, x => by
    have h : ∀ (l l' : List AVal), scals l = true → scals l' = true → scals (l ++ l') = true := by
      intro l
      induction l with
      | nil => intro l' _ h; exact h
      | cons y l ih => intro l' h1 h2; simp only [scals, Bool.and_eq_true] at h1; simp only [List.cons_append, scals, h1.1, ih l' h1.2 h2, Bool.and_true]
    exact h _ _ (enc_scal a x.1) (enc_scal b x.2)
  | .box t c, x => by cases x <;> rfl

theorem scals_flat {α : Type} (f : α → List AVal) (hf : ∀ x, scals (f x) = true) : ∀ (l : List α), scals (l.flatMap f) = true
  | [] => rfl
  | x :: l => by
    have h : ∀ (l l' : List AVal), scals l = true → scals l' = true → scals (l ++ l') = true := by
      intro l
      induction l with
      | nil => intro l' _ h; exact h
      | cons y l ih => intro l' h1 h2; simp only [scals, Bool.and_eq_true] at h1; simp only [List.cons_append, scals, h1.1, ih l' h1.2 h2, Bool.and_true]
    exact h _ _ (hf x) (scals_flat f hf l)

theorem flatMap_length {α : Type} (f : α → List AVal) (s : Nat) (hf : ∀ x, (f x).length = s) : ∀ (l : List α), (l.flatMap f).length = l.length * s
  | [] => by simp
  | x :: l => by simp only [List.flatMap_cons, List.length_append, hf, flatMap_length f s hf l, List.length_cons, Nat.add_mul]; omega

theorem cutL_get {α : Type} {l : List α} {lo n i : Nat} {x : α} (h : (cutL l lo n)[i]? = some x) : i < n ∧ l[lo + i]? = some x := by
  unfold cutL at h
  rw [List.getElem?_take] at h
  split at h
  · rename_i hi; rw [List.getElem?_drop] at h; exact ⟨hi, h⟩
  · cases h

theorem flat_split {α : Type} (f : α → List AVal) (s : Nat) (hf : ∀ x, (f x).length = s) : ∀ (l : List α) (k : Nat) (a : AVal), (l.flatMap f)[k]? = some a → ∃ i j x, k = i * s + j ∧ j < s ∧ l[i]? = some x ∧ (f x)[j]? = some a
  | [], k, a, h => by simp at h
  | y :: l, k, a, h => by
    simp only [List.flatMap_cons] at h
    rcases Nat.lt_or_ge k s with hk | hk
    · rw [List.getElem?_append_left (by rw [hf]; exact hk)] at h
      exact ⟨0, k, y, by simp, hk, rfl, h⟩
    · rw [List.getElem?_append_right (by rw [hf]; exact hk), hf] at h
      obtain ⟨i, j, x, h1, h2, h3, h4⟩ := flat_split f s hf l _ a h
      exact ⟨i + 1, j, x, by rw [Nat.add_mul]; omega, h2, by simpa using h3, h4⟩

/-- the rows of a slice, as the model reads them -/
theorem rows_read {φ : Map} {ψ : Nat → List Nat} {G : Nat → Blk} {w : World} (hs : SRel φ ψ G w) {c : Cd} {l0 : List c.El} {ro : Bool} {sz b lo n : Nat} {cap : Option Nat} {v : Value} (hG : G b = .rows c l0 ro) (hsz : sz = c.size)
    (hv : VRel φ (.slice sz b lo n cap) v) : ∃ (ad : Option Addr) (cp : Nat) (news : List Value), v = .slice ad n cp ∧ n ≤ cp ∧ VRels φ ((cutL l0 lo n).flatMap c.enc) news ∧ news.length = n * c.size ∧ (cutL l0 lo n).length = n ∧
      (0 < cp → ∃ L, φ b = some L ∧ ad = some ⟨L.blk, L.off + lo * L.size, none⟩ ∧ L.size = c.size ∧ lo + cp ≤ L.lim) ∧
      (n = 0 ∨ ∃ a : Addr, ad = some a ∧ ∀ (w' : World), (∀ k, w'.cell? k = w.cell? k) → ∀ j u, news[j]? = some u → w'.cell? (a.add j) = some u) := by
  simp only [VRel] at hv
  obtain ⟨L, ad, cp, hL, rfl, hLs, hcnt, hlc, hlim, had, _⟩ := hv
  obtain ⟨L', hL', hs1, hc1, hr⟩ := (hs.rel b).parts (by rw [hG]; rfl) (by rw [hG]; rfl)
  rw [hL] at hL'; injection hL' with hL'; subst hL'
  rw [hG] at hs1 hc1 hr
  simp only [Blk.size, Blk.cnt] at hs1 hc1 hr
  have hcl : (cutL l0 lo n).length = n := by unfold cutL; simp; omega
  have hfl : ((cutL l0 lo n).flatMap c.enc).length = n * c.size := by rw [flatMap_length c.enc c.size (Cd.enc_length c), hcl]
  rcases hr with ⟨h0, h0', _⟩ | ⟨_, _, arr, e, fz, hh, hlim', _, hcell⟩
  · have hn : n = 0 := by omega
    subst hn
    refine ⟨ad, cp, [], rfl, by omega, ?_, by simp, hcl, fun h => ⟨L, hL, ?_, by omega, hlim⟩, .inl rfl⟩
    · have : cutL l0 lo 0 = [] := by unfold cutL; simp
      rw [this]; simp [VRels]
    · rcases had with h1 | h1
      · omega
      · exact h1
  · obtain ⟨us, hus, hua⟩ := row_values (φ := φ) (arr := arr) (off := L.off + lo * c.size) ((cutL l0 lo n).flatMap c.enc) 0 (fun k a hk => by
      obtain ⟨i, j, x, rfl, hj, hx, ha⟩ := flat_split c.enc c.size (Cd.enc_length c) _ _ _ hk
      obtain ⟨hi, hx'⟩ := cutL_get hx
      obtain ⟨u, hu, hur⟩ := hcell (lo + i) (c.enc x) (by simp [Blk.rowAt, hx']) j a ha
      refine ⟨u, ?_, hur⟩
      rw [hs1] at hu
      rw [show L.off + lo * c.size + (0 + (i * c.size + j)) = L.off + (lo + i) * c.size + j by rw [Nat.add_mul]; omega]
      exact hu)
    refine ⟨ad, cp, us, rfl, hlc, hus, by rw [hus.length, hfl], hcl, fun h => ⟨L, hL, ?_, hs1, hlim⟩, ?_⟩
    · rcases had with h1 | h1
      · omega
      · exact h1
    · by_cases hn : n = 0
      · exact .inl hn
      · right
        rcases had with h1 | h1
        · omega
        · refine ⟨_, h1, fun w' hw' j u hj => ?_⟩
          rw [hw', add_none, cell_at hh]
          have := hua j u hj
          rw [hs1]
          rwa [show L.off + lo * c.size + (0 + j) = L.off + lo * c.size + j by omega] at this

/-- a new block; those in X are given up -/
theorem GI.add {B : Base} {φ : Map} {ψ : Nat → List Nat} {G : Nat → Blk} {w w' : World} {X : List Nat} {n : Nat} {blk : Blk} {L : Loc} {own : List Nat} (g : GI B φ ψ G w) (hX : ∀ b ∈ X, (G b).wr = true ∧ b ≠ n) (hφ : φ n = none) (hG : G n = .dead) (hm : B.m ≤ n)
    (hwr : blk.wr = true) (hsz : w.heap.size ≤ w'.heap.size) (hside : Side w w') (hot : ∀ c, c < w.heap.size → (∀ b ∈ X, c ∉ ψ b) → w'.heap[c]? = w.heap[c]?)
    (hrel : BRel (fun b => if b = n then some L else φ b) w' blk (some L) own) (hown : ∀ c ∈ own, w.heap.size ≤ c ∨ ∃ b ∈ X, c ∈ ψ b) :
    GI B (fun b => if b = n then some L else φ b) (fun b => if b = n then own else ψ b) (fun b => if b = n then blk else if b ∈ X then .dead else G b) w' ∧ Ext φ (fun b => if b = n then some L else φ b) := by
  have hext : Ext φ (fun b => if b = n then some L else φ b) := by
    intro b L' hb
    by_cases e : b = n
    · subst e; rw [hφ] at hb; cases hb
    · simp [e, hb]
  have hnro : ∀ {x : Blk}, x.wr = true → x.ro = true → False := by
    intro x h1 h2
    cases x <;> simp [Blk.wr, Blk.ro] at h1 h2
    rw [h2] at h1; cases h1
  refine ⟨g.step (X := X) (N := [n]) ⟨hext, fun b hb => by simp at hb; simp [hb], fun b hb hb' => by simp at hb'; simp [hb, hb'], fun b hb => by simp at hb; subst hb; exact hG, hsz, fun c hc h => hot c hc fun b hb => h b hb (hX b hb).1, ?_, ?_, ?_, ?_, ?_, fun b hb hr => (hnro (hX b hb).1 hr).elim, hside⟩ (by simp; exact hm), hext⟩
  · intro b hb
    by_cases e : b = n
    · subst e; simp only [if_true]; exact hrel
    · have hbX : b ∈ X := by rcases hb with h | h; exact h; simp at h; exact absurd h e
      intro hl
      simp [e, hbX, Blk.live] at hl
  · intro b hb hl c hc
    by_cases e : b = n
    · subst e
      simp only [if_true] at hc
      rcases hown c hc with h | ⟨x, hx, hcx⟩
      · exact .inl h
      · exact .inr ⟨x, hx, (hX x hx).1, hcx⟩
    · have hbX : b ∈ X := by rcases hb with h | h; exact h; simp at h; exact absurd h e
      simp [e, hbX, Blk.wr] at hl
  · intro b hb _; exact (hX b hb).1
  · intro b hb hr
    by_cases e : b = n
    · subst e; simp only [if_true] at hr; exact (hnro hwr hr).elim
    · have hbX : b ∈ X := by rcases hb with h | h; exact h; simp at h; exact absurd h e
      simp [e, hbX, Blk.ro] at hr
  · intro b b' hne hb hb' hl hl'
    exfalso
    have key : ∀ x, (x ∈ X ∨ x ∈ [n]) → (if x = n then blk else if x ∈ X then Blk.dead else G x).live = true → x = n := by
      intro x hx hlx
      by_cases e : x = n
      · exact e
      · have hxX : x ∈ X := by rcases hx with h | h; exact h; simp at h; exact absurd h e
        simp [e, hxX, Blk.live] at hlx
    exact hne ((key b hb hl).trans (key b' hb' hl').symm)

/-! families -/
theorem cutL_at {α : Type} {l : List α} {lo n i : Nat} {x : α} (h : (cutL l lo n)[i]? = some x) : i < n ∧ l[lo + i]? = some x := by
  unfold cutL at h
  rw [List.getElem?_take] at h
  split at h
  · rename_i hi; rw [List.getElem?_drop] at h; exact ⟨hi, h⟩
  · cases h

structure FamRead (φ : Map) (ψ : Nat → List Nat) (w : World) (t : Nat) (d : Cd) (l : List (Option Nat)) (f : List d.El) (b lo n : Nat) (v : Value) (L : Loc) (ad : Option Addr) (cp : Nat) (news : List Value) : Prop where
  hL : φ b = some L
  val : v = .slice ad n cp
  le : n ≤ cp
  lim : lo + cp ≤ L.lim
  nlen : news.length = n
  clen : (cutL l lo n).length = n
  cells : ∀ (i : Nat) (x : Option Nat), (cutL l lo n)[i]? = some x → ∃ u, news[i]? = some u ∧ CellIs t L.fam x u
  fam : FamIs w t d l f L
  size : L.size = 1
  own : ψ b = ownOf L
  adr : 0 < cp → ad = some ⟨L.blk, L.off + lo, none⟩
  read : n = 0 ∨ ∃ a : Addr, ad = some a ∧ ∀ (j : Nat) (u : Value), news[j]? = some u → w.cell? (a.add j) = some u
  arr : L.lim ≠ 0 → ∃ arr e fz, w.heap[L.blk]? = some (.cells arr e fz) ∧ L.off + L.lim ≤ arr.size ∧ (∀ x, ¬ (fz.1 ≤ x ∧ x < fz.2)) ∧ ∀ j, j < n → arr[L.off + lo + j]? = news[j]?

theorem fam_read {φ : Map} {ψ : Nat → List Nat} {G : Nat → Blk} {w : World} (hs : SRel φ ψ G w) {t : Nat} {d : Cd} {l : List (Option Nat)} {f : List d.El} {sz b lo n : Nat} {cap : Option Nat} {v : Value}
    (hG : G b = .fam t d l f) (hv : VRel φ (.slice sz b lo n cap) v) : sz = 1 ∧ ∃ L ad cp news, FamRead φ ψ w t d l f b lo n v L ad cp news := by
  simp only [VRel] at hv
  obtain ⟨L, ad, cp, hL, rfl, hLs, hcnt, hlc, hlim, had, _⟩ := hv
  obtain ⟨L', hL', hs1, hc1, hown, hcl, hlies, hfam⟩ := hs.rel b (by rw [hG]; rfl)
  rw [hL] at hL'; injection hL' with hL'; subst hL'
  rw [hG] at hs1 hc1 hcl hlies hfam
  simp only [Blk.size, Blk.cnt] at hs1 hc1 hcl
  have hclen : (cutL l lo n).length = n := by unfold cutL; simp; omega
  refine ⟨by omega, L, ad, cp, ?_⟩
  have hadd : 0 < cp → ad = some ⟨L.blk, L.off + lo, none⟩ := fun h => by
    rcases had with h1 | h1
    · omega
    · rw [h1, hs1, Nat.mul_one]
  by_cases h0 : L.lim = 0
  · have hn : n = 0 := by omega
    subst hn
    exact ⟨[], hL, rfl, hlc, hlim, rfl, hclen, fun i x hx => by have := (cutL_at hx).1; omega, hfam, hs1, hown, hadd, .inl rfl, fun h => absurd h0 h⟩
  · obtain ⟨_, arr, e, fz, hh, hsz, hfz, _⟩ := hlies h0
    rw [hs1, Nat.mul_one] at hsz
    have hget : ∀ j, j < n → ((arr.toList.drop (L.off + lo)).take n)[j]? = arr[L.off + lo + j]? := by
      intro j hj
      rw [List.getElem?_take, if_pos hj, List.getElem?_drop]; simp
    refine ⟨(arr.toList.drop (L.off + lo)).take n, hL, rfl, hlc, hlim, by simp; omega, hclen, fun i x hx => ?_, hfam, hs1, hown, hadd, ?_, fun _ => ⟨arr, e, fz, hh, hsz, hfz rfl, fun j hj => (hget j hj).symm⟩⟩
    · obtain ⟨hi, hx'⟩ := cutL_at hx
      obtain ⟨u, hu, hur⟩ := hfam.cells h0 arr e fz hh _ x hx'
      exact ⟨u, by rw [hget i hi, Nat.add_assoc]; exact hu, hur⟩
    · by_cases hn : n = 0
      · exact .inl hn
      · refine .inr ⟨_, hadd (by omega), fun j u hj => ?_⟩
        have hj2 : j < n := by have := (List.getElem?_eq_some_iff.mp hj).1; simp at this; omega
        rw [hget j hj2] at hj
        rw [add_none, cell_at hh]; exact hj

theorem CellIs.left {t : Nat} {F F2 : List (Nat × Nat)} {x : Option Nat} {u : Value} (h : CellIs t F x u) : CellIs t (F ++ F2) x u := by
  cases x with
  | none => exact h
  | some q =>
    obtain ⟨p, hp, e⟩ := h
    exact ⟨p, by rw [List.getElem?_append_left (List.getElem?_eq_some_iff.mp hp).1]; exact hp, e⟩
theorem CellIs.right {t : Nat} {F F2 : List (Nat × Nat)} {x : Option Nat} {u : Value} (h : CellIs t F2 x u) : CellIs t (F ++ F2) (shiftF F.length x) u := by
  cases x with
  | none => exact h
  | some q =>
    obtain ⟨p, hp, e⟩ := h
    exact ⟨p, by rw [List.getElem?_append_right (by omega), show q + F.length - F.length = q by omega]; exact hp, e⟩
theorem CellIs.one {t : Nat} {F : List (Nat × Nat)} {x : Option Nat} {u : Value} (h : CellIs t F x u) : u.oneCell' = true := by
  cases x with
  | none => simp only [CellIs] at h; subst h; rfl
  | some q => obtain ⟨p, _, rfl⟩ := h; rfl

theorem fam_brel {φ' : Map} {w' : World} {L : Loc} {t : Nat} {d : Cd} {l : List (Option Nat)} {f : List d.El} (hs : L.size = 1) (hc : L.cnt = l.length) (hlim : l.length ≤ L.lim) (h0 : L.lim ≠ 0)
    {arr : Array Value} {e : TypeId} {fz : Nat × Nat} (hh : w'.heap[L.blk]? = some (.cells arr e fz)) (hsz : L.off + L.lim ≤ arr.size) (hfz : ∀ x, ¬ (fz.1 ≤ x ∧ x < fz.2)) (hlen : L.fam.length = f.length) (hnd : (ownOf L).Nodup)
    (hcells : ∀ (i : Nat) (x : Option Nat), l[i]? = some x → ∃ u, arr[L.off + i]? = some u ∧ CellIs t L.fam x u) (hrows : ∀ (q : Nat) (p : Nat × Nat) (x : d.El), L.fam[q]? = some p → f[q]? = some x → RowIs w' d x p) :
    BRel φ' w' (.fam t d l f) (some L) (ownOf L) := fun _ =>
  ⟨L, rfl, hs, hc, rfl, hlim, fun _ => ⟨hlim, arr, e, fz, hh, by rw [hs, Nat.mul_one]; exact hsz, fun _ => hfz, fun i cs hi => by simp [Blk.rowAt] at hi⟩,
    hlen, hnd, fun _ arr2 e2 fz2 hh2 => by rw [hh] at hh2; injection hh2 with hh2; injection hh2 with h1 h2 h3; subst h1; exact hcells, hrows⟩

theorem rows_both {w w' : World} {d : Cd} {f f2 : List d.El} {F F2 : List (Nat × Nat)} (hl : F.length = f.length) (h : ∀ (q : Nat) (p : Nat × Nat) (x : d.El), F[q]? = some p → f[q]? = some x → RowIs w d x p)
    (h2 : ∀ (q : Nat) (p : Nat × Nat) (x : d.El), F2[q]? = some p → f2[q]? = some x → RowIs w d x p) (hw : ∀ p ∈ F ++ F2, w'.heap[p.1]? = w.heap[p.1]?) :
    ∀ (q : Nat) (p : Nat × Nat) (x : d.El), (F ++ F2)[q]? = some p → (f ++ f2)[q]? = some x → RowIs w' d x p := by
  intro q p x hp hx
  refine RowIs.keep ?_ (hw p (List.mem_of_getElem? hp))
  rcases Nat.lt_or_ge q F.length with hq | hq
  · rw [List.getElem?_append_left hq] at hp
    rw [List.getElem?_append_left (by omega)] at hx
    exact h q p x hp hx
  · rw [List.getElem?_append_right hq] at hp
    rw [List.getElem?_append_right (by omega), ← hl] at hx
    exact h2 _ p x hp hx

theorem fam_nodup {L : Loc} (h : (ownOf L).Nodup) : (L.fam.map (·.1)).Nodup := by
  unfold ownOf at h
  exact (List.nodup_append.mp h).2.1
theorem fam_own {L : Loc} {c : Nat} (h : c ∈ L.fam.map (·.1)) : c ∈ ownOf L := List.mem_append.mpr (.inr h)
end Go.Proofs.YtdgipcjigbagfaaGreat.AB
