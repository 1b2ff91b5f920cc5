/- Slice literals, cuts, append, clear. -/
import Derived.Test.YtdgipcjigbagfaaGreatFwH
namespace Go.Proofs.YtdgipcjigbagfaaGreat.AB
set_option linter.unusedSimpArgs false
set_option linter.unusedVariables false
variable {P : Program} {ti : Nat → TyI} {o : Oper} {ρ : Operand → AVal}

theorem Cd.dec_enc : ∀ (c : Cd) (l : List AVal) (x : c.El), c.dec l = some x → c.enc x = l
  | .int k, [], x, h => by simp [Cd.dec] at h
  | .int k, _ :: _ :: _, x, h => by simp [Cd.dec] at h
  | .int k, [v], x, h => by
    cases v <;> simp [Cd.dec] at h
    obtain ⟨rfl, h⟩ := h; injection h with h; subst h; rfl
  | .bool, [], x, h => by simp [Cd.dec] at h
  | .bool, _ :: _ :: _, x, h => by simp [Cd.dec] at h
  | .bool, [v], x, h => by
    cases v <;> simp [Cd.dec] at h
    injection h with h; subst h; rfl
  | .str, [], x, h => by simp [Cd.dec] at h
  | .str, _ :: _ :: _, x, h => by simp [Cd.dec] at h
  | .str, [v], x, h => by
    cases v <;> simp [Cd.dec] at h
    injection h with h; subst h; rfl
  | .pair a b, l, x, h => by
    simp only [Cd.dec] at h
    split at h
    · rename_i y z hy hz
      injection h with h; subst h
      simp only [Cd.enc, Cd.dec_enc a _ y hy, Cd.dec_enc b _ z hz, List.take_append_drop]
    · cases h
  | .box t c, [], x, h => by simp [Cd.dec] at h
  | .box t c, _ :: _ :: _, x, h => by simp [Cd.dec] at h
  | .box t c, [v], x, h => by
    cases v <;> simp only [Cd.dec] at h <;> try (cases h; done)
    · injection h with h; subst h; rfl
    · rename_i t' v
      cases v <;> simp only at h <;> try (cases h; done)
      split at h
      · rename_i cs e
        split at h
        · rename_i y hy
          injection h with h; subst h
          subst e
          simp only [Cd.enc, Cd.dec_enc c _ y hy]
        · cases h
      · cases h

theorem decAll_get : ∀ (c : Cd) (ls : List (List AVal)) (l : List c.El), decAll c ls = some l → l.length = ls.length ∧ ∀ (i : Nat) (x : c.El), l[i]? = some x → ls[i]? = some (c.enc x)
  | c, [], l, h => by simp only [decAll] at h; injection h with h; subst h; simp
  | c, y :: ls, l, h => by
    simp only [decAll] at h
    split at h
    · rename_i a l' ha hl'
      injection h with h; subst h
      obtain ⟨h1, h2⟩ := decAll_get c ls l' hl'
      refine ⟨by simp [h1], fun i x hx => ?_⟩
      cases i with
      | zero => simp at hx; subst hx; simp [Cd.dec_enc c y a ha]
      | succ i => simpa using h2 i x (by simpa using hx)
    · cases h

/-- parts in their order fill the cells from k on -/
theorem fill_order {size : Nat} : ∀ (ps : List (Nat × Operand)) (vs : List Value) (k : Nat) (cells : Array Value), partsInOrder k ps = true → ps.length = vs.length → (∀ v ∈ vs, v.cells.size = size) → (k + ps.length) * size ≤ cells.size →
    ∃ out, Instr.fill (fun i => some (i * size, size)) cells ((ps.map (·.1)).zip vs) = some out ∧ out.size = cells.size ∧
      ∀ x, out[x]? = if k * size ≤ x ∧ x < (k + ps.length) * size then (vs.flatMap fun v => v.cells.toList)[x - k * size]? else cells[x]?
  | [], [], k, cells, _, _, _, _ => ⟨cells, rfl, rfl, fun x => by rw [if_neg (by simp)]⟩
  | [], _ :: _, _, _, _, h, _, _ => by simp at h
  | _ :: _, [], _, _, _, h, _, _ => by simp at h
  | (i, y) :: ps, v :: vs, k, cells, ho, hl, hs, hb => by
    simp only [partsInOrder, Bool.and_eq_true] at ho
    have hi := Nat.eq_of_beq_eq_true ho.1
    subst hi
    have hv := hs v (by simp)
    simp only [List.length_cons] at hb hl
    have hb' : i * size + size ≤ cells.size := by
      have : (i + 1) * size ≤ (i + (ps.length + 1)) * size := Nat.mul_le_mul_right _ (by omega)
      rw [Nat.add_mul] at this; omega
    obtain ⟨h1, h2⟩ := fold_set v.cells.toList (i * size) 0 cells
    obtain ⟨out, hf, hsz, hx⟩ := fill_order ps vs (i + 1) ((v.cells.toList.zipIdx 0).foldl (fun a (p : Value × Nat) => a.setIfInBounds (i * size + p.2) p.1) cells) ho.2 (by omega) (fun u hu => hs u (by simp [hu]))
      (by rw [h1, show i + 1 + ps.length = i + (ps.length + 1) by omega]; exact hb)
    refine ⟨out, ?_, by rw [hsz, h1], fun x => ?_⟩
    · simp only [List.map_cons, List.zip_cons_cons, Instr.fill]
      rw [if_neg (by rw [hv]; simp; omega), fold_set_arr]
      exact hf
    · rw [hx x]
      have e1 : (i + 1) * size = i * size + size := by rw [Nat.add_mul]; omega
      have e2 : (i + 1 + ps.length) * size = (i + (ps.length + 1)) * size := by congr 1; omega
      have e3 : i * size + size ≤ (i + (ps.length + 1)) * size := by
        have : (i + 1) * size ≤ (i + (ps.length + 1)) * size := Nat.mul_le_mul_right _ (by omega)
        rw [Nat.add_mul] at this; omega
      simp only [List.length_cons, List.flatMap_cons]
      have hvl : v.cells.toList.length = size := by simpa using hv
      by_cases h : i * size ≤ x ∧ x < (i + (ps.length + 1)) * size
      · rw [if_pos h]
        by_cases h' : x < i * size + size
        · rw [if_neg (by omega), h2 x (by omega), if_pos (by omega), List.getElem?_append_left (by omega)]
          simp
        · rw [if_pos (by omega), List.getElem?_append_right (by omega), hvl]
          congr 1; omega
      · rw [if_neg h, if_neg (by omega)]
        rcases Nat.lt_or_ge x cells.size with hlt | hge
        · rw [h2 x hlt, if_neg (by omega)]
        · rw [Array.getElem?_eq_none (by rw [h1]; exact hge), Array.getElem?_eq_none hge]

/-- the cells of rows, one behind the other -/
theorem flat_get {α : Type} (f : α → List AVal) (s : Nat) : ∀ (l : List α), (∀ x, (f x).length = s) → ∀ (i : Nat) (x : α) (j : Nat) (a : AVal), l[i]? = some x → (f x)[j]? = some a → (l.flatMap f)[i * s + j]? = some a
  | [], _, i, x, j, a, h, _ => by simp at h
  | y :: l, hs, i, x, j, a, h, hj => by
    have hjs : j < s := by
      obtain ⟨hlt, _⟩ := List.getElem?_eq_some_iff.mp hj
      rw [hs] at hlt; exact hlt
    cases i with
    | zero =>
      simp at h; subst h
      simp only [List.flatMap_cons, Nat.zero_mul, Nat.zero_add]
      rw [List.getElem?_append_left (by rw [hs]; exact hjs)]; exact hj
    | succ i =>
      simp only [List.flatMap_cons]
      rw [List.getElem?_append_right (by rw [hs, Nat.add_mul]; omega), hs]
      rw [show (i + 1) * s + j - s = i * s + j by rw [Nat.add_mul]; omega]
      exact flat_get f s l hs i x j a (by simpa using h) hj

theorem VRels.flatMap {φ : Map} : ∀ (as : List AVal) (us : List Value), VRels φ as us → (∀ a ∈ as, a ≠ .undef ∧ ∀ vs, a ≠ .tuple vs) → VRels φ (as.flatMap cellsOf) (us.flatMap fun v => v.cells.toList)
  | [], us, h, _ => by simp only [VRels] at h; subst h; simp [VRels]
  | a :: as, us, h, hn => by
    simp only [VRels] at h
    obtain ⟨u, us', rfl, hu, hs⟩ := h
    simp only [List.flatMap_cons]
    exact (cells_rel hu (hn a (by simp)).1 (hn a (by simp)).2).append (VRels.flatMap as us' hs fun b hb => hn b (by simp [hb]))

theorem flat_length (f : List (List AVal)) (s : Nat) (h : ∀ x ∈ f, x.length = s) : (f.flatMap id).length = f.length * s := by
  induction f with
  | nil => simp
  | cons x f ih =>
    simp only [List.flatMap_cons, List.length_append, List.length_cons, id, h x (by simp)]
    rw [ih fun y hy => h y (by simp [hy]), Nat.add_mul]; omega

theorem impl_buildSlice (hti : TyOk P ti) {T : TypeId} {len : Nat} {parts : Array (Nat × Operand)} {c : Cd} {l : List c.El} (ho : o.op = .buildSlice T len parts) (hk : (ti T).kd = .slice)
    (hkn : (ti (ti T).elem).kd ≠ .other) (hz : (ti (ti T).elem).zero.length = (ti (ti T).elem).size) (hcs : c.size = (ti (ti T).elem).size) (hpos : 0 < (ti (ti T).elem).size) (hlen : parts.toList.length = len)
    (hord : partsInOrder 0 parts.toList = true) (hbig : len * (ti (ti T).elem).size ≤ 16777216) (hdec : decAll c (parts.toList.map fun p => cellsOf (ρ p.2)) = some l)
    (hnice : ∀ p ∈ parts.toList, ρ p.2 ≠ .undef ∧ ∀ vs, ρ p.2 ≠ .tuple vs) :
    Impl P o ρ (.new (.rows c l false) fun id => .slice (ti (ti T).elem).size id 0 l.length (some l.length)) :=
  impl_new rfl rfl fun φ a w h => by
    obtain ⟨hll, hget⟩ := decAll_get c _ l hdec
    simp only [List.length_map, hlen] at hll
    have hvals : VRels φ (parts.toList.map fun p => ρ p.2) (parts.toList.map fun p => a.eval p.2) := by
      have := map_rel (φ := φ) (ρ := ρ) (a := a) (l := parts.toList.map (·.2)) (fun y hy => h y (by
        simp only [ho, Op.operands]; simpa using hy))
      rw [List.map_map, List.map_map] at this
      exact this
    have hcsz : ∀ v ∈ parts.toList.map (fun p => a.eval p.2), v.cells.size = (ti (ti T).elem).size := by
      intro v hv
      obtain ⟨i, hi⟩ := List.getElem?_of_mem hv
      rw [List.getElem?_map] at hi
      cases hp : parts.toList[i]? with
      | none => simp [hp] at hi
      | some p =>
        simp [hp] at hi; subst hi
        have hlt : i < l.length := by rw [hll, ← hlen]; exact (List.getElem?_eq_some_iff.mp hp).1
        have hx := hget i l[i] (by simp [hlt])
        simp only [List.getElem?_map, hp, Option.map_some, Option.some.injEq] at hx
        have hcell := cells_rel (h p.2 (by
          simp only [ho, Op.operands]
          have := List.mem_of_getElem? hp
          simpa using ⟨p.1, by simpa using this⟩)) (hnice p (List.mem_of_getElem? hp)).1 (hnice p (List.mem_of_getElem? hp)).2
        have h1 := hcell.length
        rw [hx, Cd.enc_length, hcs] at h1
        simpa using h1
    obtain ⟨z, hz0, hzr, _⟩ := run_zero hti hkn w
    have hzs : z.cells.size = (ti (ti T).elem).size := by have := (hzr φ).length; rw [hz] at this; simpa using this
    let zero : Array Value := if len * (ti (ti T).elem).size = 0 then #[] else z.cells
    let base : Array Value := (Array.range (len * (ti (ti T).elem).size)).map (zero[· % zero.size]!)
    have hbase : base.size = len * (ti (ti T).elem).size := by simp [base]
    obtain ⟨out, hfill, hosz, hox⟩ := fill_order (size := (ti (ti T).elem).size) parts.toList (parts.toList.map fun p => a.eval p.2) 0 base hord (by simp) hcsz (by rw [hbase, hlen]; simp)
    refine ⟨out, (ti T).elem, .slice (some ⟨w.heap.size, 0, none⟩) len len, len, ?_, ?_, ?_, ?_, fun φ' n hn => ?_⟩
    · have hzip : (parts.map fun (x : Nat × Operand) => (x.1, a.eval x.2)).toList = (parts.toList.map (·.1)).zip (parts.toList.map fun p => a.eval p.2) := by
        simp [List.zip_map']
      have hbig' : ¬ (len * (ti (ti T).elem).size > 2 ^ 24) := by simp; omega
      simp only [execOp, ho, Instr.buildSlice, Sem.run_bind, run_underlying (und_slice hti hk), Result.andThen_ok, run_sizeOf hti hkn, hbig', if_false, Sem.run_pure, hzip]
      by_cases h0 : len * (ti (ti T).elem).size = 0
      · have hb0 : base = Array.map (fun x => (#[] : Array Value)[x % (#[] : Array Value).size]!) (Array.range (len * (ti (ti T).elem).size)) := by simp only [base, zero, h0, if_true]
        rw [hb0] at hfill
        rw [if_pos h0]
        simp only [Sem.run_bind, Sem.run_pure, Result.andThen_ok, hfill]
        simp [newRow]
      · have hb0 : base = Array.map (fun x => z.cells[x % z.cells.size]!) (Array.range (len * (ti (ti T).elem).size)) := by simp only [base, zero, h0, if_false]
        rw [hb0] at hfill
        rw [if_neg h0]
        simp only [Sem.run_bind, hz0, Sem.run_pure, Result.andThen_ok, hfill]
        simp [newRow]
    · show len * c.size ≤ out.size
      rw [hosz, hbase, hcs]; exact Nat.le_refl _
    · show l.length ≤ len
      omega
    · intro i cs hi j x hx
      simp only [Blk.rowAt] at hi
      cases hl : l[i]? with
      | none => simp [hl] at hi
      | some y =>
        simp [hl] at hi; subst hi
        have hpi := hget i y hl
        have hfl := VRels.flatMap _ _ hvals (by
          intro b hb
          simp only [List.mem_map] at hb
          obtain ⟨p, hp, rfl⟩ := hb
          exact hnice p hp)
        have hil : i < len := by rw [← hll]; exact (List.getElem?_eq_some_iff.mp hl).1
        have hjs : j < c.size := by rw [← Cd.enc_length c y]; exact (List.getElem?_eq_some_iff.mp hx).1
        rw [List.getElem?_map] at hpi
        cases hp : parts.toList[i]? with
        | none => simp [hp] at hpi
        | some p =>
          simp only [hp, Option.map_some, Option.some.injEq] at hpi
          have hflat : ((parts.toList.map fun p => ρ p.2).flatMap cellsOf)[i * c.size + j]? = some x := by
            have key : ∀ (q : List (Nat × Operand)) (i : Nat) (p : Nat × Operand), (∀ (k : Nat) (p' : Nat × Operand), q[k]? = some p' → (cellsOf (ρ p'.2)).length = c.size) → q[i]? = some p → (cellsOf (ρ p.2))[j]? = some x →
                ((q.map fun p => ρ p.2).flatMap cellsOf)[i * c.size + j]? = some x := by
              intro q
              induction q with
              | nil => intro i p _ hq; simp at hq
              | cons q0 q ih =>
                intro i p hq hqi hqj
                have h0 := hq 0 q0 rfl
                cases i with
                | zero =>
                  simp at hqi; subst hqi
                  simp only [List.map_cons, List.flatMap_cons, Nat.zero_mul, Nat.zero_add]
                  rw [List.getElem?_append_left (by omega)]; exact hqj
                | succ i =>
                  simp only [List.map_cons, List.flatMap_cons]
                  rw [List.getElem?_append_right (by rw [h0, Nat.add_mul]; omega), h0]
                  rw [show (i + 1) * c.size + j - c.size = i * c.size + j by rw [Nat.add_mul]; omega]
                  exact ih i p (fun k p' hk => hq (k + 1) p' (by simpa using hk)) (by simpa using hqi) hqj
            refine key _ i p (fun k p' hk' => ?_) hp (by rw [hpi]; exact hx)
            have hkl : k < l.length := by rw [hll, ← hlen]; exact (List.getElem?_eq_some_iff.mp hk').1
            have hx' := hget k l[k] (by simp [hkl])
            simp only [List.getElem?_map, hk', Option.map_some, Option.some.injEq] at hx'
            rw [hx', Cd.enc_length]
          obtain ⟨u, hu, hur⟩ := hfl.get _ _ hflat
          refine ⟨u, ?_, hur⟩
          rw [hox]
          have hin := row_in (n := len) hil hjs
          show (if 0 * _ ≤ i * c.size + j ∧ i * c.size + j < _ then _ else _) = _
          rw [if_pos (by rw [hlen, ← hcs]; simp; exact hin)]
          simpa [Blk.size] using hu
    · simp only [VRel]
      refine ⟨_, _, _, hn, by rw [hll], hcs, ?_, ?_, ?_, .inr (by simp), fun d hd => by simp at hd; omega⟩
      · simp [Blk.cnt]
      · omega
      · simp

theorem scal_cells {v : AVal} (h : scal v = true) : cellsOf v = [v] ∧ v ≠ .undef ∧ ∀ vs, v ≠ .tuple vs := by
  cases v <;> simp [scal, cellsOf] at h ⊢
theorem scals_mem : ∀ {l : List AVal}, scals l = true → ∀ v ∈ l, scal v = true
  | [], _, v, hv => by cases hv
  | x :: l, h, v, hv => by
    simp only [scals, Bool.and_eq_true] at h
    rcases List.mem_cons.mp hv with e | e
    · subst e; exact h.1
    · exact scals_mem h.2 v e

theorem impl_buildCells (hti : TyOk P ti) {T : TypeId} {len : Nat} {parts : Array (Nat × Operand)} (ho : o.op = .buildSlice T len parts) (hk : (ti T).kd = .slice)
    (hkn : (ti (ti T).elem).kd ≠ .other) (hz : (ti (ti T).elem).zero.length = (ti (ti T).elem).size) (hs1 : (ti (ti T).elem).size = 1) (hlen : parts.toList.length = len)
    (hord : partsInOrder 0 parts.toList = true) (hbig : len * (ti (ti T).elem).size ≤ 16777216) (hsc : scals (parts.toList.map fun p => ρ p.2) = true) :
    Impl P o ρ (.new (.cells (parts.toList.map fun p => ρ p.2)) fun id => .slice 1 id 0 parts.toList.length (some parts.toList.length)) :=
  impl_new rfl rfl fun φ a w h => by
    have hsm : ∀ p ∈ parts.toList, scal (ρ p.2) = true := fun p hp => scals_mem hsc _ (List.mem_map.mpr ⟨p, hp, rfl⟩)
    have hvr : ∀ p ∈ parts.toList, VRel φ (ρ p.2) (a.eval p.2) := fun p hp => h p.2 (by
      simp only [ho, Op.operands]; simpa using ⟨p.1, by simpa using hp⟩)
    have hcell : ∀ p ∈ parts.toList, ∃ u, (a.eval p.2).cells.toList = [u] ∧ VRel φ (ρ p.2) u := by
      intro p hp
      obtain ⟨c1, c2, c3⟩ := scal_cells (hsm p hp)
      have := cells_rel (hvr p hp) c2 c3
      rw [c1] at this
      simp only [VRels] at this
      obtain ⟨u, us', e, hu, rfl⟩ := this
      exact ⟨u, e, hu⟩
    have hcsz : ∀ v ∈ parts.toList.map (fun p => a.eval p.2), v.cells.size = (ti (ti T).elem).size := by
      intro v hv
      obtain ⟨p, hp, rfl⟩ := List.mem_map.mp hv
      obtain ⟨u, e, _⟩ := hcell p hp
      rw [hs1, ← Array.length_toList, e]; rfl
    obtain ⟨z, hz0, hzr, _⟩ := run_zero hti hkn w
    have hzs : z.cells.size = (ti (ti T).elem).size := by have := (hzr φ).length; rw [hz] at this; simpa using this
    let zero : Array Value := if len * (ti (ti T).elem).size = 0 then #[] else z.cells
    let base : Array Value := (Array.range (len * (ti (ti T).elem).size)).map (zero[· % zero.size]!)
    have hbase : base.size = len * (ti (ti T).elem).size := by simp [base]
    obtain ⟨out, hfill, hosz, hox⟩ := fill_order (size := (ti (ti T).elem).size) parts.toList (parts.toList.map fun p => a.eval p.2) 0 base hord (by simp) hcsz (by rw [hbase, hlen]; simp)
    refine ⟨out, (ti T).elem, .slice (some ⟨w.heap.size, 0, none⟩) len len, len, ?_, ?_, ?_, ?_, fun φ' n hn => ?_⟩
    · have hzip : (parts.map fun (x : Nat × Operand) => (x.1, a.eval x.2)).toList = (parts.toList.map (·.1)).zip (parts.toList.map fun p => a.eval p.2) := by
        simp [List.zip_map']
      have hbig' : ¬ (len * (ti (ti T).elem).size > 2 ^ 24) := by simp; omega
      simp only [execOp, ho, Instr.buildSlice, Sem.run_bind, run_underlying (und_slice hti hk), Result.andThen_ok, run_sizeOf hti hkn, hbig', if_false, Sem.run_pure, hzip]
      by_cases h0 : len * (ti (ti T).elem).size = 0
      · have hb0 : base = Array.map (fun x => (#[] : Array Value)[x % (#[] : Array Value).size]!) (Array.range (len * (ti (ti T).elem).size)) := by simp only [base, zero, h0, if_true]
        rw [hb0] at hfill
        rw [if_pos h0]
        simp only [Sem.run_bind, Sem.run_pure, Result.andThen_ok, hfill]
        simp [newRow]
      · have hb0 : base = Array.map (fun x => z.cells[x % z.cells.size]!) (Array.range (len * (ti (ti T).elem).size)) := by simp only [base, zero, h0, if_false]
        rw [hb0] at hfill
        rw [if_neg h0]
        simp only [Sem.run_bind, hz0, Sem.run_pure, Result.andThen_ok, hfill]
        simp [newRow]
    · show len * 1 ≤ out.size
      rw [hosz, hbase, hs1]; exact Nat.le_refl _
    · show (parts.toList.map fun p => ρ p.2).length ≤ len
      rw [List.length_map]; omega
    · intro i cs hi j x hx
      simp only [Blk.rowAt, List.getElem?_map] at hi
      cases hp : parts.toList[i]? with
      | none => simp [hp] at hi
      | some p =>
        simp [hp] at hi; subst hi
        have hpm := List.mem_of_getElem? hp
        cases j with
        | succ j => simp at hx
        | zero =>
          simp at hx; subst hx
          obtain ⟨u, e, hu⟩ := hcell p hpm
          refine ⟨u, ?_, hu⟩
          have hil : i < len := by rw [← hlen]; exact (List.getElem?_eq_some_iff.mp hp).1
          have hfl : ((parts.toList.map fun p => a.eval p.2).flatMap fun v => v.cells.toList)[i]? = some u := by
            have key : ∀ (q : List (Nat × Operand)) (i : Nat), (∀ p ∈ q, ∃ u, (a.eval p.2).cells.toList = [u]) → q[i]? = some p → ((q.map fun p => a.eval p.2).flatMap fun v => v.cells.toList)[i]? = some u := by
              intro q
              induction q with
              | nil => intro i _ hq; simp at hq
              | cons q0 q ih =>
                intro i hq hqi
                obtain ⟨u0, e0⟩ := hq q0 (by simp)
                cases i with
                | zero => simp at hqi; subst hqi; simp [e]
                | succ i =>
                  simp only [List.map_cons, List.flatMap_cons, e0, List.singleton_append, List.getElem?_cons_succ]
                  exact ih i (fun p hp => hq p (by simp [hp])) (by simpa using hqi)
            exact key _ i (fun p hp => by obtain ⟨u, e, _⟩ := hcell p hp; exact ⟨u, e⟩) hp
          show out[i * 1 + 0]? = some u
          rw [show i * 1 + 0 = i by omega, hox, if_pos (by rw [hs1, hlen]; omega)]
          simpa using hfl
    · simp only [VRel]
      refine ⟨_, _, _, hn, by rw [hlen], rfl, ?_, ?_, ?_, .inr (by simp), fun d hd => by injection hd with hd; omega⟩
      · simp [Blk.cnt]
      · omega
      · simp
end Go.Proofs.YtdgipcjigbagfaaGreat.AB
