/- Writing to memory; literals; append; clear. -/
import Derived.Test.YtfoaihjkmfhaoaaFwF
namespace Go.Proofs.Ytfoaihjkmfhaoaa.AB
set_option linter.unusedSimpArgs false
set_option linter.unusedVariables false
variable {P : Program} {ti : Nat → TyI} {o : Oper} {ρ : Operand → AVal}

theorem rows_apart {i k s m : Nat} (h : k ≠ i) (hm : m < s) : ¬ (i * s ≤ k * s + m ∧ k * s + m < i * s + s) := by
  intro ⟨h1, h2⟩
  rcases Nat.lt_or_gt_of_ne h with hl | hl
  · have := Nat.mul_le_mul_right s (show k + 1 ≤ i from hl)
    rw [Nat.add_mul] at this; omega
  · have := Nat.mul_le_mul_right s (show i + 1 ≤ k from hl)
    rw [Nat.add_mul] at this; omega

theorem row_in {i n s m : Nat} (h : i < n) (hm : m < s) : i * s + m < n * s := by
  have := Nat.mul_le_mul_right s (show i + 1 ≤ n from h)
  rw [Nat.add_mul] at this; omega

/-- one block is written where it lies -/
theorem GI.write {B : Base} {φ : Map} {ψ : Nat → List Nat} {G : Nat → Blk} {w w' : World} {b : Nat} {blk' : Blk} (g : GI B φ ψ G w) (hw : (G b).wr = true)
    (hwr : blk'.wr = true) (hsz : w.heap.size ≤ w'.heap.size) (hside : Side w w') (hot : ∀ c, c < w.heap.size → c ∉ ψ b → w'.heap[c]? = w.heap[c]?) (hrel : BRel φ w' blk' (φ b) (ψ b)) : GI B φ ψ (upd G b blk') w' := by
  have hnro : ∀ {x : Blk}, x.wr = true → x.ro = true → False := by
    intro x h1 h2
    cases x <;> simp [Blk.wr, Blk.ro] at h1 h2
    rw [h2] at h1; cases h1
  refine g.step (X := [b]) (N := []) ⟨Ext.refl φ, fun _ _ => rfl, fun c hc _ => by simp at hc; simp [upd, hc], by simp, hsz, fun c hc h => hot c hc (h b (by simp) hw), ?_, ?_, ?_, ?_, ?_, ?_, hside⟩ (by simp)
  · intro c hc; simp at hc; subst hc; simp only [upd, if_true]; exact hrel
  · intro c hc _ x hx; simp at hc; subst hc; exact .inr ⟨c, by simp, hw, hx⟩
  · intro c hc _; simp at hc; subst hc; exact hw
  · intro c hc hr; simp at hc; subst hc; simp only [upd, if_true] at hr; exact (hnro hwr hr).elim
  · intro c c' hne hc hc'; simp at hc hc'; omega
  · intro c hc hr; simp at hc; subst hc; exact (hnro hw hr).elim

theorem impl_store (hti : TyOk P ti) {T : TypeId} {x y : Operand} {b i j : Nat} (ho : o.op = .store T x y) (hx : ρ x = .ptr b i j) (hT : (ti T).kd ≠ .other)
    (hlen : (cellsOf (ρ y)).length = (ti T).size) (hsc : scals (cellsOf (ρ y)) = true) (hu : ρ y ≠ .undef) (ht : ∀ vs, ρ y ≠ .tuple vs) : Impl P o ρ (.wr b i j (cellsOf (ρ y))) := by
  intro B φ ψ G w a n v' G' rd wr nn hρ g hfr hm hp next Q hk
  cases hp
  rename_i old blk' hfit hw hrow hset
  have h1 := hρ x (by simp [ho, Op.operands])
  have h2 := hρ y (by simp [ho, Op.operands])
  rw [hx] at h1
  simp only [VRel] at h1
  obtain ⟨L, hL, he⟩ := h1
  have hcells := cells_rel h2 hu ht
  obtain ⟨L', hL', hs, hc, hr⟩ := (g.s.rel b).parts (wr_live hw)
  rw [hL] at hL'; injection hL' with hL'; subst hL'
  have hlt := Blk.rowAt_lt hrow
  have holdlen := Blk.rowAt_length hrow
  rcases hr with ⟨_, h0, _⟩ | ⟨hψ, hcnt, arr, e, fz, hh, hlim, hfz, hcell⟩
  · omega
  · have hbound : L.off + i * L.size + j + (cellsOf (ρ y)).length ≤ arr.size := by
      have : (i + 1) * L.size ≤ L.lim * L.size := Nat.mul_le_mul_right _ (by omega)
      rw [Nat.add_mul] at this
      rw [hs] at this hlim ⊢; omega
    obtain ⟨w', hrun, ⟨hsz, hsd⟩, hot, arr', hh', hs', hx'⟩ := run_storeCells (P := P) (a.eval y).cells.toList 0 w L.blk (L.off + i * L.size + j) arr e fz hh (hfz hw) (by rw [hcells.length]; simpa using hbound) (scals_one hsc hcells)
    have hexec : (execOp a.eval o).run P w = .ok .skip w' := by
      have hne : (a.eval y).cells.size = (ti T).size := by have := hcells.length; rw [hlen] at this; simpa using this
      simp only [execOp, ho, Instr.storeAt, Instr.sureAddr, he, storeVar, Sem.run_bind, Sem.run_pure, Result.andThen_ok, run_sizeOf hti hT, hne, ne_eq, not_true_eq_false, if_false, Sem.run_ite, hrun]
    unfold Oper.wp
    rw [hexec]
    refine hk φ ψ w' undef (g.write hw (by rw [hset.wr]; exact hw) (Nat.le_of_eq hsz.symm) hsd (fun c _ hc => hot c (fun e => hc (by rw [hψ]; simp [e]))) ?_) (Ext.refl φ) (fun b hb => .inl hb) (by simp [VRel, VRels, undef])
    refine BRel.of hL (by rw [hset.size, hs]) (by rw [hset.cnt, hc]) hψ (by omega) ⟨by rw [hset.cnt]; exact hcnt, arr', e, fz, hh', by rw [hs']; exact hlim, by rw [hset.wr]; exact hfz, fun k row hk' m z hz => ?_⟩
    have hlast : (a.eval y).cells.toList.length = (cellsOf (ρ y)).length := hcells.length
    by_cases hki : k = i
    · subst hki
      rw [hset.at_] at hk'
      injection hk' with hk'; subst hk'
      have hm : m < L.size := by
        have := List.getElem?_eq_some_iff.mp hz
        obtain ⟨hlt', _⟩ := this
        simp at hlt'; omega
      simp only [hx', Nat.add_zero]
      rcases Nat.lt_or_ge m j with hmj | hmj
      · rw [if_neg (by omega)]
        have : old[m]? = some z := by
          rw [List.append_assoc, List.getElem?_append_left (by simp; omega)] at hz
          rw [List.getElem?_take] at hz
          simpa [hmj] using hz
        exact hcell k old hrow m z this
      · rcases Nat.lt_or_ge m (j + (cellsOf (ρ y)).length) with hml | hml
        · rw [if_pos (by rw [hlast]; omega)]
          have : (cellsOf (ρ y))[m - j]? = some z := by
            rw [List.append_assoc, List.getElem?_append_right (by simp; omega)] at hz
            simp only [List.length_take] at hz
            rw [Nat.min_eq_left (by omega), List.getElem?_append_left (by omega)] at hz
            exact hz
          obtain ⟨u, hu', hur⟩ := hcells.get _ _ this
          exact ⟨u, by rw [show L.off + k * L.size + m - (L.off + k * L.size + j) = m - j by omega]; exact hu', hur⟩
        · rw [if_neg (by rw [hlast]; omega)]
          have : old[m]? = some z := by
            rw [List.getElem?_append_right (by simp; omega)] at hz
            rw [List.getElem?_drop] at hz
            simp only [List.length_append, List.length_take] at hz
            rw [Nat.min_eq_left (by omega)] at hz
            rwa [show j + (cellsOf (ρ y)).length + (m - (j + (cellsOf (ρ y)).length)) = m by omega] at hz
          exact hcell k old hrow m z this
    · rw [hset.other k hki] at hk'
      have hm : m < L.size := by
        have := Blk.rowAt_length hk'
        obtain ⟨hlt', _⟩ := List.getElem?_eq_some_iff.mp hz
        omega
      have hap := rows_apart hki hm
      simp only [hx', Nat.add_zero]
      rw [if_neg (by rw [hlast]; intro ⟨h1, h2⟩; apply hap; constructor <;> omega)]
      exact hcell k row hk' m z hz
end Go.Proofs.Ytfoaihjkmfhaoaa.AB
