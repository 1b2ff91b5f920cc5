/- Operations on memory. -/
import Derived.Test.YtdgipcjigbagfaaGreatFwE
namespace Go.Proofs.YtdgipcjigbagfaaGreat.AB
set_option linter.unusedSimpArgs false
set_option linter.unusedVariables false
variable {P : Program} {ti : Nat → TyI} {o : Oper} {ρ : Operand → AVal}

theorem scal_one {φ : Map} {a : AVal} {v : Value} (hs : scal a = true) (h : VRel φ a v) : v.oneCell' = true := by
  cases a <;> simp [scal] at hs <;> simp only [VRel] at h
  case ptr => obtain ⟨L, _, rfl⟩ := h; rfl
  case fptr => obtain ⟨L, p, _, _, rfl⟩ := h; rfl
  case slice => obtain ⟨L, a, c, _, rfl, _⟩ := h; rfl
  case iface => obtain ⟨u, rfl, _⟩ := h; rfl
  case func => obtain ⟨u, rfl, _⟩ := h; rfl
  all_goals (subst h; rfl)

theorem scals_one {φ : Map} : ∀ {as : List AVal} {us : List Value}, scals as = true → VRels φ as us → ∀ u ∈ us, u.oneCell' = true
  | [], us, _, h, u, hu => by simp only [VRels] at h; subst h; simp at hu
  | a :: as, us, hs, h, u, hu => by
    simp only [scals, Bool.and_eq_true] at hs
    simp only [VRels] at h
    obtain ⟨v, vs, rfl, hv, hvs⟩ := h
    simp at hu
    rcases hu with rfl | hu
    · exact scal_one hs.1 hv
    · exact scals_one hs.2 hvs u hu

theorem frozen_free {w : World} {blk : Nat} {arr : Array Value} {e : TypeId} {fz : Nat × Nat} (h : w.heap[blk]? = some (.cells arr e fz)) (hf : ∀ x, ¬ (fz.1 ≤ x ∧ x < fz.2)) (i : Nat) :
    w.frozen? ⟨blk, i, none⟩ = false := by
  have := hf i
  obtain ⟨lo, hi⟩ := fz
  simp only [World.frozen?, h]
  simp only at this
  simp
  intro h1; omega

theorem heap_setCell {w : World} {blk i : Nat} {arr : Array Value} {e : TypeId} {fz : Nat × Nat} (h : w.heap[blk]? = some (.cells arr e fz)) (v : Value) :
    (w.setCell ⟨blk, i, none⟩ v).heap[blk]? = some (.cells (arr.setIfInBounds i v) e fz) := by
  simp [World.setCell, Array.getElem?_modify, h]

theorem heap_setCell_other (w : World) {blk c i : Nat} (h : c ≠ blk) (v : Value) : (w.setCell ⟨blk, i, none⟩ v).heap[c]? = w.heap[c]? := by
  simp [World.setCell, Array.getElem?_modify]
  intro e; exact absurd e.symm h

theorem run_storeCells : ∀ (us : List Value) (k : Nat) (w : World) (blk off : Nat) (arr : Array Value) (e : TypeId) (fz : Nat × Nat), w.heap[blk]? = some (.cells arr e fz) → (∀ x, ¬ (fz.1 ≤ x ∧ x < fz.2)) →
    off + k + us.length ≤ arr.size → (∀ u ∈ us, u.oneCell' = true) →
    ∃ w', (storeCells ⟨blk, off, none⟩ us k).run P w = .ok () w' ∧ (w'.heap.size = w.heap.size ∧ Side w w') ∧ (∀ c, c ≠ blk → w'.heap[c]? = w.heap[c]?) ∧
      ∃ arr', w'.heap[blk]? = some (.cells arr' e fz) ∧ arr'.size = arr.size ∧ ∀ x, arr'[x]? = if off + k ≤ x ∧ x < off + k + us.length then us[x - (off + k)]? else arr[x]?
  | [], k, w, blk, off, arr, e, fz, hh, _, _, _ => by
    refine ⟨w, by simp [storeCells], ⟨rfl, .refl w⟩, fun _ _ => rfl, arr, hh, rfl, fun x => ?_⟩
    rw [if_neg (by simp)]
  | u :: us, k, w, blk, off, arr, e, fz, hh, hf, hb, h1 => by
    simp only [List.length_cons] at hb
    have hin : off + k < arr.size := by omega
    have hcell : w.cell? ⟨blk, off + k, none⟩ = some arr[off + k] := by rw [cell_at hh]; simp [hin]
    obtain ⟨w', hr, ⟨hsz, hsd⟩, hot, arr', hh', hs', hx⟩ := run_storeCells us (k + 1) (w.setCell ⟨blk, off + k, none⟩ u) blk off (arr.setIfInBounds (off + k) u) e fz (heap_setCell hh u) hf (by simp; omega)
      (fun v hv => h1 v (by simp [hv]))
    refine ⟨w', ?_, ⟨by simpa using hsz, Side.trans (b := w.setCell ⟨blk, off + k, none⟩ u) ⟨rfl, rfl, rfl⟩ hsd⟩, fun c hc => (hot c hc).trans (heap_setCell_other w hc u), arr', hh', by simpa using hs', fun x => ?_⟩
    · simp only [storeCells, Sem.run_bind, add_none, run_store P w _ u .plain (h1 u (by simp)), hcell, frozen_free hh hf, Bool.false_eq_true, if_false, Result.andThen_ok, hr]
    · rw [hx x]
      by_cases h : off + (k + 1) ≤ x ∧ x < off + (k + 1) + us.length
      · rw [if_pos h, if_pos (by simp; omega)]
        have : x - (off + k) = (x - (off + (k + 1))) + 1 := by omega
        rw [this]; simp
      · rw [if_neg h]
        by_cases h' : x = off + k
        · subst h'
          rw [if_pos (by simp)]
          simp [hin]
        · rw [if_neg (by simp; omega)]
          have : off + k ≠ x := fun e => h' e.symm
          simp [Array.getElem?_setIfInBounds, this]

/-! reading -/
theorem row_values {φ : Map} {arr : Array Value} {off : Nat} : ∀ (cs : List AVal) (k : Nat), (∀ j x, cs[j]? = some x → ∃ u, arr[off + (k + j)]? = some u ∧ VRel φ x u) →
    ∃ us : List Value, VRels φ cs us ∧ ∀ j u, us[j]? = some u → arr[off + (k + j)]? = some u
  | [], k, _ => ⟨[], by simp [VRels], by simp⟩
  | c :: cs, k, h => by
    obtain ⟨u, hu, hr⟩ := h 0 c rfl
    obtain ⟨us, hs, hus⟩ := row_values (φ := φ) (arr := arr) (off := off) cs (k + 1) (fun j x hx => by
      have := h (j + 1) x (by simpa using hx)
      rwa [show k + (j + 1) = k + 1 + j by omega] at this)
    refine ⟨u :: us, by simp only [VRels]; exact ⟨u, us, rfl, hr, hs⟩, fun j v hj => ?_⟩
    cases j with
    | zero => simp at hj; subst hj; exact hu
    | succ j =>
      have := hus j v (by simpa using hj)
      rwa [show k + 1 + j = k + (j + 1) by omega] at this

theorem run_loadVar (hti : TyOk P ti) {T : Nat} {φ : Map} {w : World} {blk off : Nat} {arr : Array Value} {e : TypeId} {fz : Nat × Nat} {cs : List AVal} {j : Nat} {v : AVal} (hT : (ti T).kd ≠ .other)
    (hh : w.heap[blk]? = some (.cells arr e fz)) (hc : ∀ j x, cs[j]? = some x → ∃ u, arr[off + j]? = some u ∧ VRel φ x u) (hp : partA (ti T) cs j = some v) :
    ∃ cv, (loadVar T ⟨blk, off + j, none⟩).run P w = .ok cv w ∧ VRel φ v cv := by
  obtain ⟨us, hs, hus⟩ := row_values (φ := φ) (arr := arr) (off := off) cs 0 (fun j x hx => by simpa using hc j x hx)
  unfold partA at hp
  unfold loadVar
  simp only [Sem.run_bind, run_isAgg hti hT, Result.andThen_ok]
  cases ha : (ti T).agg with
  | true =>
    simp only [ha, cond_true] at hp
    obtain ⟨hb, hp⟩ := of_cond hp
    have hb := Nat.le_of_ble_eq_true hb
    injection hp with hp; subst hp
    have hlen : ((us.drop j).take (ti T).size).length = (ti T).size := by simp [hs.length]; omega
    have hl := run_loadCells_list (P := P) w ⟨blk, off + j, none⟩ ((us.drop j).take (ti T).size) (fun m u hm => by
      rw [add_none, cell_at hh]
      rw [List.getElem?_take] at hm
      split at hm
      · rw [List.getElem?_drop] at hm
        have := hus _ _ hm
        rwa [show off + (0 + (j + m)) = off + j + m by omega] at this
      · cases hm)
    rw [hlen] at hl
    refine ⟨.agg ((us.drop j).take (ti T).size).toArray, ?_, by simp only [VRel]; exact ⟨_, rfl, (hs.drop j).take _⟩⟩
    simp only [if_true, Sem.run_bind, run_sizeOf hti hT, Result.andThen_ok, hl, Sem.run_pure]
  | false =>
    simp only [ha, cond_false] at hp
    have hj : cs[j]? = some v := by
      have : (cs.drop j)[0]? = some v := by
        split at hp
        · rename_i e; rw [e]; simpa using hp
        · cases hp
      simpa using this
    obtain ⟨u, hu, hr⟩ := hc j v hj
    refine ⟨u, ?_, hr⟩
    have : w.cell? ⟨blk, off + j, none⟩ = some u := by rw [cell_at hh, hu]
    simp [this]

theorem impl_load (hti : TyOk P ti) {T : TypeId} {x : Operand} {b i j : Nat} (ho : o.op = .load T x) (hx : ρ x = .ptr b i j) (hT : (ti T).kd ≠ .other) : Impl P o ρ (.rd b i fun cs => partA (ti T) cs j) :=
  impl_rd fun φ a w L arr e fz cs v h hL hh hc hlen hp => by
    have h1 := h x (by simp [ho, Op.operands])
    rw [hx] at h1
    simp only [VRel] at h1
    obtain ⟨L', hL', he⟩ := h1
    rw [hL] at hL'; injection hL' with hL'; subst hL'
    obtain ⟨cv, hr, hv⟩ := run_loadVar hti hT hh hc hp
    refine ⟨cv, ?_, hv⟩
    simp only [execOp, ho, Instr.loadAt, Instr.sureAddr, he, Sem.run_bind, Sem.run_pure, Result.andThen_ok, hr]

/-! new blocks -/
theorem impl_new {blk : Blk} {vf : Nat → AVal} (hwr : blk.wr = true) (hnf : blk.isFam = false)
    (h : ∀ (φ : Map) (a : Act) (w : World), (∀ x ∈ o.op.operands.toList, VRel φ (ρ x) (a.eval x)) → ∃ arr e cv lim, (execOp a.eval o).run P w = .ok (.value cv) (w.alloc (.cells arr e)) ∧
      lim * blk.size ≤ arr.size ∧ blk.cnt ≤ lim ∧ (∀ i cs, blk.rowAt i = some cs → ∀ j x, cs[j]? = some x → ∃ u, arr[i * blk.size + j]? = some u ∧ VRel φ x u) ∧
      ∀ (φ' : Map) n, φ' n = some ⟨w.heap.size, 0, blk.size, blk.cnt, lim, []⟩ → VRel φ' (vf n) cv) : Impl P o ρ (.new blk vf) := by
  intro B φ ψ G w a n v' G' rd wr nn hρ g hfr hm hp next Q hk
  cases hp
  obtain ⟨hφn, hGn⟩ := hfr n (Nat.le_refl _) (by omega)
  obtain ⟨arr, e, cv, lim, hrun, hsz, hcnt, hcell, hval⟩ := h φ a w hρ
  have hheap : (w.alloc (.cells arr e)).heap[w.heap.size]? = some (.cells arr e (0, 0)) := by
    show (w.heap.push _)[w.heap.size]? = _
    simp
  have hold : ∀ c, c < w.heap.size → (w.alloc (.cells arr e)).heap[c]? = w.heap[c]? := by
    intro c hc
    simp only [World.alloc, Array.getElem?_push]
    rw [if_neg (by omega)]
  unfold Oper.wp
  rw [hrun]
  have hext : Ext φ (fun b => if b = n then some ⟨w.heap.size, 0, blk.size, blk.cnt, lim, []⟩ else φ b) := by
    intro b L hb
    by_cases e : b = n
    · subst e; rw [hφn] at hb; cases hb
    · simp [e, hb]
  refine hk (fun b => if b = n then some ⟨w.heap.size, 0, blk.size, blk.cnt, lim, []⟩ else φ b) (fun b => if b = n then ownOf ⟨w.heap.size, 0, blk.size, blk.cnt, lim, []⟩ else ψ b) (w.alloc (.cells arr e)) cv ?_ hext ?_ (hval _ n (by simp))
  · refine g.step (X := []) (N := [n]) ⟨hext, fun b hb => by simp at hb; simp [hb], fun b _ hb => by simp at hb; simp [upd, hb], fun b hb => by simp at hb; subst hb; exact hGn, by rw [World.size_alloc]; omega, fun c hc _ => hold c hc, ?_, ?_, ?_, ?_, ?_, ?_, ⟨rfl, rfl, rfl⟩⟩ (by simp; omega)
    · intro b hb
      simp at hb; subst hb
      simp only [upd, if_true]
      intro _
      refine ⟨_, rfl, rfl, rfl, rfl, hcnt, fun _ => ⟨hcnt, arr, e, (0, 0), hheap, by simpa using hsz, fun _ x => by simp, fun i cs hi j x hx => ?_⟩, FamOk.of_not rfl hnf⟩
      obtain ⟨u, hu, hr⟩ := hcell i cs hi j x hx
      exact ⟨u, by simpa using hu, VRel.ext hext x hr⟩
    · intro b hb _ c hc
      simp at hb; subst hb
      simp [ownOf] at hc
      exact .inl (Nat.le_of_eq hc.2.symm)
    · intro b hb; simp at hb
    · intro b hb hr
      simp at hb; subst hb
      simp only [upd, if_true] at hr
      exfalso
      cases blk <;> simp [Blk.wr, Blk.ro] at hwr hr
      rw [hr] at hwr; cases hwr
    · intro b b' hne hb hb'
      simp at hb hb'; omega
    · simp
  · intro b hb
    by_cases e : b = n
    · subst e; exact .inr ⟨Nat.le_refl _, by omega⟩
    · simp [e] at hb; exact .inl (by simpa using hb)

theorem impl_alloc (hti : TyOk P ti) {T : TypeId} (ho : o.op = .alloc T) (hT : (ti T).kd ≠ .other) (hz : (ti T).zero.length = (ti T).size) : Impl P o ρ (.new (.var (ti T).zero) fun id => .ptr id 0 0) :=
  impl_new rfl rfl fun φ a w _ => by
    obtain ⟨z, hz0, hzr, _⟩ := run_zero hti hT w
    have hs := (hzr φ).length
    refine ⟨z.cells, T, .pointer (some ⟨w.heap.size, 0, none⟩), 1, ?_, ?_, by simp [Blk.cnt], ?_, fun φ' n hn => ?_⟩
    · simp [execOp, ho, Instr.alloc, hz0, newVar, newRow]
    · simp [Blk.size]; simpa using Nat.le_of_eq hs.symm
    · intro i cs hi j x hx
      simp [Blk.rowAt] at hi
      obtain ⟨rfl, rfl⟩ := hi
      obtain ⟨u, hu, hr⟩ := (hzr φ).get j x hx
      exact ⟨u, by simpa using hu, hr⟩
    · simp only [VRel]; exact ⟨_, hn, by simp⟩

theorem impl_box {T : TypeId} {x : Operand} (ho : o.op = .box T x) (hu : ρ x ≠ .undef) (ht : ∀ vs, ρ x ≠ .tuple vs) : Impl P o ρ (.new (.var (cellsOf (ρ x))) fun id => .ptr id 0 0) :=
  impl_new rfl rfl fun φ a w h => by
    have h1 := h x (by simp [ho, Op.operands])
    have hc := cells_rel h1 hu ht
    have hs := hc.length
    refine ⟨(a.eval x).cells, T, .pointer (some ⟨w.heap.size, 0, none⟩), 1, ?_, ?_, by simp [Blk.cnt], ?_, fun φ' n hn => ?_⟩
    · simp [execOp, ho, Instr.box, newVar, newRow]
    · simp [Blk.size]; simpa using Nat.le_of_eq hs.symm
    · intro i cs hi j y hy
      simp [Blk.rowAt] at hi
      obtain ⟨rfl, rfl⟩ := hi
      obtain ⟨u, hu, hr⟩ := hc.get j y hy
      exact ⟨u, by simpa using hu, hr⟩
    · simp only [VRel]; exact ⟨_, hn, by simp⟩
end Go.Proofs.YtdgipcjigbagfaaGreat.AB
