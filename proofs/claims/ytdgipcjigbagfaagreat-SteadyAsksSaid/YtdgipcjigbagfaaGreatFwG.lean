/- Writing to memory; literals; append; clear. -/
import Derived.Test.YtdgipcjigbagfaaGreatFwF
namespace Go.Proofs.YtdgipcjigbagfaaGreat.AB
set_option linter.unusedSimpArgs false
set_option linter.unusedVariables false
variable {P : Program} {ti : Nat → TyI} {o : Oper} {ρ : Operand → AVal}

theorem rows_apart {i k s m : Nat} (h : k ≠ i) (hm : m < s) : ¬ (i * s ≤ k * s + m ∧ k * s + m < i * s + s) := by
  intro ⟨h1, h2⟩
  rcases Nat.lt_or_gt_of_ne h with hl | hl
  · have := Nat.mul_le_mul_right s (show k + 1 ≤ i from hl)
    rw [Nat.add_mul] at this; omega
  · have := Nat.mul_le_mul_right s (show i + 1 ≤ k from hl)
    rw [Nat.add_mul] at this; omega

theorem row_in {i n s m : Nat} (h : i < n) (hm : m < s) : i * s + m < n * s := by
  have := Nat.mul_le_mul_right s (show i + 1 ≤ n from h)
  rw [Nat.add_mul] at this; omega

/-- one block is written where it lies -/
theorem GI.write {B : Base} {φ : Map} {ψ : Nat → List Nat} {G : Nat → Blk} {w w' : World} {b : Nat} {blk' : Blk} (g : GI B φ ψ G w) (hw : (G b).wr = true)
    (hwr : blk'.wr = true) (hsz : w.heap.size ≤ w'.heap.size) (hside : Side w w') (hot : ∀ c, c < w.heap.size → c ∉ ψ b → w'.heap[c]? = w.heap[c]?) (hrel : BRel φ w' blk' (φ b) (ψ b)) : GI B φ ψ (upd G b blk') w' := by
  have hnro : ∀ {x : Blk}, x.wr = true → x.ro = true → False := by
    intro x h1 h2
    cases x <;> simp [Blk.wr, Blk.ro] at h1 h2
    rw [h2] at h1; cases h1
  refine g.step (X := [b]) (N := []) ⟨Ext.refl φ, fun _ _ => rfl, fun c hc _ => by simp at hc; simp [upd, hc], by simp, hsz, fun c hc h => hot c hc (h b (by simp) hw), ?_, ?_, ?_, ?_, ?_, ?_, hside⟩ (by simp)
  · intro c hc; simp at hc; subst hc; simp only [upd, if_true]; exact hrel
  · intro c hc _ x hx; simp at hc; subst hc; exact .inr ⟨c, by simp, hw, hx⟩
  · intro c hc _; simp at hc; subst hc; exact hw
  · intro c hc hr; simp at hc; subst hc; simp only [upd, if_true] at hr; exact (hnro hwr hr).elim
  · intro c c' hne hc hc'; simp at hc hc'; omega
  · intro c hc hr; simp at hc; subst hc; exact (hnro hw hr).elim

theorem fam_apart {L : Loc} (hn : (ownOf L).Nodup) (h0 : L.lim ≠ 0) {q : Nat} {p : Nat × Nat} (hq : L.fam[q]? = some p) : p.1 ≠ L.blk := by
  intro e
  simp only [ownOf, h0, if_false, List.singleton_append, List.nodup_cons] at hn
  exact hn.1 (List.mem_map.mpr ⟨p, List.mem_of_getElem? hq, e⟩)

theorem FamIs.cellsSet {w w' : World} {L : Loc} {t : Nat} {c : Cd} {l l' : List (Option Nat)} {fm : List c.El} {arr' : Array Value} {e : TypeId} {fz : Nat × Nat}
    (h : FamIs w t c l fm L) (h0 : L.lim ≠ 0) (hh' : w'.heap[L.blk]? = some (.cells arr' e fz)) (hot : ∀ c, c ≠ L.blk → w'.heap[c]? = w.heap[c]?)
    (hc : ∀ (i : Nat) (x : Option Nat), l'[i]? = some x → ∃ v, arr'[L.off + i]? = some v ∧ CellIs t L.fam x v) : FamIs w' t c l' fm L := by
  refine ⟨h.len, h.nodup, fun _ arr e2 fz2 hh => ?_, fun q p x hq hx => (h.rows q p x hq hx).keep (hot _ (fam_apart h.nodup h0 hq))⟩
  rw [hh'] at hh
  injection hh with hh; injection hh with h1 h2 h3; subst h1
  exact hc

theorem cell_is {φ : Map} {L : Loc} {t b : Nat} {x : Option Nat} {a : AVal} {v : Value} (hL : φ b = some L) (ha : cellA t b x = [a]) (h : VRel φ a v) : CellIs t L.fam x v := by
  cases x with
  | none => simp [cellA] at ha; subst ha; simpa [VRel, CellIs] using h
  | some q =>
    simp [cellA] at ha; subst ha
    simp only [VRel] at h
    obtain ⟨u, rfl, L', p, hL', hp, rfl⟩ := h
    rw [hL] at hL'; injection hL' with hL'; subst hL'
    exact ⟨p, hp, rfl⟩
theorem cellA_one (t b : Nat) (x : Option Nat) : ∃ a, cellA t b x = [a] := by cases x <;> exact ⟨_, rfl⟩

theorem impl_store (hti : TyOk P ti) {T : TypeId} {x y : Operand} {b i j : Nat} (ho : o.op = .store T x y) (hx : ρ x = .ptr b i j) (hT : (ti T).kd ≠ .other)
    (hlen : (cellsOf (ρ y)).length = (ti T).size) (hsc : scals (cellsOf (ρ y)) = true) (hu : ρ y ≠ .undef) (ht : ∀ vs, ρ y ≠ .tuple vs) : Impl P o ρ (.wr b i j (cellsOf (ρ y))) := by
  intro B φ ψ G w a n v' G' rd wr nn hρ g hfr hm hp next Q hk
  cases hp
  case wrS t c l fm z hi hcz hG =>
    have h1 := hρ x (by simp [ho, Op.operands])
    have h2 := hρ y (by simp [ho, Op.operands])
    rw [hx] at h1
    simp only [VRel] at h1
    obtain ⟨L, hL, he⟩ := h1
    have hcells := cells_rel h2 hu ht
    obtain ⟨aa, haa⟩ := cellA_one t b z
    have hw : (G b).wr = true := by rw [hG]; rfl
    obtain ⟨L', hL', hs, hc, hown, hcl, hlies, hfam⟩ := g.s.rel b (wr_live hw)
    rw [hL] at hL'; injection hL' with hL'; subst hL'
    rw [hG] at hs hc hcl hlies hfam
    simp only [Blk.size, Blk.cnt] at hs hc hcl
    have h0 : L.lim ≠ 0 := by omega
    obtain ⟨hcnt, arr, e, fz, hh, hlim, hfz, _⟩ := hlies h0
    have hl1 : (cellsOf (ρ y)).length = 1 := by rw [← hcz, haa]; rfl
    rw [hs] at hlim
    obtain ⟨u, hu1⟩ : ∃ u, (a.eval y).cells.toList = [u] := by
      have hz := hcells.length; rw [hl1] at hz
      exact List.length_eq_one_iff.mp hz
    have hur : VRel φ aa u := by
      rw [hu1, ← hcz, haa] at hcells
      simp only [VRels] at hcells
      obtain ⟨u', us', e1, h1, h2⟩ := hcells
      injection e1 with e1 e2; subst e1; exact h1
    obtain ⟨w', hrun, ⟨hsz, hsd⟩, hot, arr', hh', hs', hx'⟩ := run_storeCells (P := P) (a.eval y).cells.toList 0 w L.blk (L.off + i * L.size + 0) arr e fz hh (hfz rfl) (by rw [hcells.length, hl1, hs]; omega) (scals_one hsc hcells)
    have hexec : (execOp a.eval o).run P w = .ok .skip w' := by
      have hne : (a.eval y).cells.size = (ti T).size := by have := hcells.length; rw [hlen] at this; simpa using this
      simp only [execOp, ho, Instr.storeAt, Instr.sureAddr, he, storeVar, Sem.run_bind, Sem.run_pure, Result.andThen_ok, run_sizeOf hti hT, hne, ne_eq, not_true_eq_false, if_false, Sem.run_ite, hrun]
    unfold Oper.wp
    rw [hexec]
    refine hk φ ψ w' undef (g.write hw rfl (Nat.le_of_eq hsz.symm) hsd (fun c _ hc => hot c (fun e => hc (by rw [hown]; simp [ownOf, h0, e]))) ?_) (Ext.refl φ) (fun b hb => .inl hb) (by simp [VRel, VRels, undef])
    intro _
    refine ⟨L, hL, hs, by simp only [Blk.cnt, List.length_set]; exact hc, hown, by simp only [Blk.cnt, List.length_set]; exact hcl, fun _ => ⟨by simp only [Blk.cnt, List.length_set]; exact hcl, arr', e, fz, hh', by rw [hs', hs]; exact hlim, fun _ => hfz rfl, fun i cs hi => by simp [Blk.rowAt] at hi⟩, ?_⟩
    refine FamIs.cellsSet hfam h0 hh' hot fun i2 x2 hx2 => ?_
    rw [hx', hu1, hs]
    simp only [Nat.mul_one, Nat.add_zero, List.length_singleton]
    rw [List.getElem?_set] at hx2
    by_cases hi2 : i = i2
    · subst hi2
      simp only [if_true, hi] at hx2
      injection hx2 with hx2; subst hx2
      rw [if_pos (by omega)]
      exact ⟨u, by simp, cell_is hL haa hur⟩
    · simp only [hi2, if_false] at hx2
      rw [if_neg (by omega)]
      exact hfam.cells h0 arr e fz hh i2 x2 hx2
  rename_i old blk' hfit hw hrow hset
  have h1 := hρ x (by simp [ho, Op.operands])
  have h2 := hρ y (by simp [ho, Op.operands])
  rw [hx] at h1
  simp only [VRel] at h1
  obtain ⟨L, hL, he⟩ := h1
  have hcells := cells_rel h2 hu ht
  obtain ⟨L', hL', hs, hc, hr⟩ := (g.s.rel b).parts (wr_live hw) (rowAt_isFam hrow)
  rw [hL] at hL'; injection hL' with hL'; subst hL'
  have hlt := Blk.rowAt_lt hrow
  have holdlen := Blk.rowAt_length hrow
  have hfm : L.fam = [] := by
    obtain ⟨L2, hL2, _, _, _, _, _, hf2⟩ := g.s.rel b (wr_live hw)
    rw [hL] at hL2; injection hL2 with hL2; subst hL2
    exact hf2.not (rowAt_isFam hrow)
  rcases hr with ⟨_, h0, _⟩ | ⟨hψ, hcnt, arr, e, fz, hh, hlim, hfz, hcell⟩
  · omega
  · have hbound : L.off + i * L.size + j + (cellsOf (ρ y)).length ≤ arr.size := by
      have : (i + 1) * L.size ≤ L.lim * L.size := Nat.mul_le_mul_right _ (by omega)
      rw [Nat.add_mul] at this
      rw [hs] at this hlim ⊢; omega
    obtain ⟨w', hrun, ⟨hsz, hsd⟩, hot, arr', hh', hs', hx'⟩ := run_storeCells (P := P) (a.eval y).cells.toList 0 w L.blk (L.off + i * L.size + j) arr e fz hh (hfz hw) (by rw [hcells.length]; simpa using hbound) (scals_one hsc hcells)
    have hexec : (execOp a.eval o).run P w = .ok .skip w' := by
      have hne : (a.eval y).cells.size = (ti T).size := by have := hcells.length; rw [hlen] at this; simpa using this
      simp only [execOp, ho, Instr.storeAt, Instr.sureAddr, he, storeVar, Sem.run_bind, Sem.run_pure, Result.andThen_ok, run_sizeOf hti hT, hne, ne_eq, not_true_eq_false, if_false, Sem.run_ite, hrun]
    unfold Oper.wp
    rw [hexec]
    refine hk φ ψ w' undef (g.write hw (by rw [hset.wr]; exact hw) (Nat.le_of_eq hsz.symm) hsd (fun c _ hc => hot c (fun e => hc (by rw [hψ]; simp [e]))) ?_) (Ext.refl φ) (fun b hb => .inl hb) (by simp [VRel, VRels, undef])
    refine BRel.of hL (by rw [hset.size, hs]) (by rw [hset.cnt, hc]) hψ (by omega) ⟨by rw [hset.cnt]; exact hcnt, arr', e, fz, hh', by rw [hs']; exact hlim, by rw [hset.wr]; exact hfz, fun k row hk' m z hz => ?_⟩ hfm (rowAt_isFam hset.at_)
    have hlast : (a.eval y).cells.toList.length = (cellsOf (ρ y)).length := hcells.length
    by_cases hki : k = i
    · subst hki
      rw [hset.at_] at hk'
      injection hk' with hk'; subst hk'
      have hm : m < L.size := by
        have := List.getElem?_eq_some_iff.mp hz
        obtain ⟨hlt', _⟩ := this
        simp at hlt'; omega
      simp only [hx', Nat.add_zero]
      rcases Nat.lt_or_ge m j with hmj | hmj
      · rw [if_neg (by omega)]
        have : old[m]? = some z := by
          rw [List.append_assoc, List.getElem?_append_left (by simp; omega)] at hz
          rw [List.getElem?_take] at hz
          simpa [hmj] using hz
        exact hcell k old hrow m z this
      · rcases Nat.lt_or_ge m (j + (cellsOf (ρ y)).length) with hml | hml
        · rw [if_pos (by rw [hlast]; omega)]
          have : (cellsOf (ρ y))[m - j]? = some z := by
            rw [List.append_assoc, List.getElem?_append_right (by simp; omega)] at hz
            simp only [List.length_take] at hz
            rw [Nat.min_eq_left (by omega), List.getElem?_append_left (by omega)] at hz
            exact hz
          obtain ⟨u, hu', hur⟩ := hcells.get _ _ this
          exact ⟨u, by rw [show L.off + k * L.size + m - (L.off + k * L.size + j) = m - j by omega]; exact hu', hur⟩
        · rw [if_neg (by rw [hlast]; omega)]
          have : old[m]? = some z := by
            rw [List.getElem?_append_right (by simp; omega)] at hz
            rw [List.getElem?_drop] at hz
            simp only [List.length_append, List.length_take] at hz
            rw [Nat.min_eq_left (by omega)] at hz
            rwa [show j + (cellsOf (ρ y)).length + (m - (j + (cellsOf (ρ y)).length)) = m by omega] at hz
          exact hcell k old hrow m z this
    · rw [hset.other k hki] at hk'
      have hm : m < L.size := by
        have := Blk.rowAt_length hk'
        obtain ⟨hlt', _⟩ := List.getElem?_eq_some_iff.mp hz
        omega
      have hap := rows_apart hki hm
      simp only [hx', Nat.add_zero]
      rw [if_neg (by rw [hlast]; intro ⟨h1, h2⟩; apply hap; constructor <;> omega)]
      exact hcell k row hk' m z hz
end Go.Proofs.YtdgipcjigbagfaaGreat.AB
