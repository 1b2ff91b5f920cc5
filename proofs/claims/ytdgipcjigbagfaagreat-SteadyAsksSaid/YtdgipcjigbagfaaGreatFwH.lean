/- Literals, lengths, least and greatest, slices, append, clear. -/
import Derived.Test.YtdgipcjigbagfaaGreatFwG
namespace Go.Proofs.YtdgipcjigbagfaaGreat.AB
set_option linter.unusedSimpArgs false
set_option linter.unusedVariables false
variable {P : Program} {ti : Nat → TyI} {o : Oper} {ρ : Operand → AVal}

/-! filling cells -/
theorem fold_set : ∀ (cs : List Value) (off k : Nat) (arr : Array Value), ((cs.zipIdx k).foldl (fun a (p : Value × Nat) => a.setIfInBounds (off + p.2) p.1) arr).size = arr.size ∧
    ∀ x, x < arr.size → ((cs.zipIdx k).foldl (fun a (p : Value × Nat) => a.setIfInBounds (off + p.2) p.1) arr)[x]? = if off + k ≤ x ∧ x < off + k + cs.length then cs[x - (off + k)]? else arr[x]?
  | [], off, k, arr => by
    refine ⟨rfl, fun x _ => ?_⟩
    rw [if_neg (by simp)]; rfl
  | c :: cs, off, k, arr => by
    obtain ⟨h1, h2⟩ := fold_set cs off (k + 1) (arr.setIfInBounds (off + k) c)
    simp only [List.zipIdx_cons, List.foldl_cons]
    refine ⟨by simpa using h1, fun x hx => ?_⟩
    rw [h2 x (by simpa using hx)]
    by_cases h : off + (k + 1) ≤ x ∧ x < off + (k + 1) + cs.length
    · rw [if_pos h, if_pos (by simp; omega)]
      rw [show x - (off + k) = (x - (off + (k + 1))) + 1 by omega]; simp
    · rw [if_neg h]
      by_cases h' : x = off + k
      · subst h'
        rw [if_pos (by simp)]
        simp [hx]
      · rw [if_neg (by simp; omega)]
        have : off + k ≠ x := fun e => h' e.symm
        simp [Array.getElem?_setIfInBounds, this]

theorem fold_set_arr (v : Value) (off : Nat) (arr : Array Value) :
    (v.cells.zipIdx.foldl (fun cs (p : Value × Nat) => cs.setIfInBounds (off + p.2) p.1) arr) = ((v.cells.toList.zipIdx 0).foldl (fun a (p : Value × Nat) => a.setIfInBounds (off + p.2) p.1) arr) := by
  rw [← Array.foldl_toList]; simp

/-- what a literal's parts make of its cells -/
theorem fill_rel {φ : Map} {place : Nat → Option (Nat × Nat)} : ∀ (ps : List (Nat × AVal)) (vs : List (Nat × Value)) (zero cs : List AVal) (zc : Array Value) (fs : List (Nat × Nat)),
    VRels φ zero zc.toList → ps.length = vs.length → (∀ (i : Nat) p, ps[i]? = some p → ∃ v, vs[i]? = some (p.1, v) ∧ VRels φ (cellsOf p.2) v.cells.toList) →
    (∀ f ft off, fs[f]? = some (ft, off) → place f = some (off, (ti ft).size)) → buildA ti fs zero ps = some cs →
    ∃ out, Instr.fill place zc vs = some out ∧ VRels φ cs out.toList
  | [], [], zero, cs, zc, fs, hz, _, _, _, h => by
    simp only [buildA] at h; injection h with h; subst h
    exact ⟨zc, rfl, hz⟩
  | [], _ :: _, _, _, _, _, _, h, _, _, _ => by simp at h
  | _ :: _, [], _, _, _, _, _, h, _, _, _ => by simp at h
  | (f, a) :: ps, (f', v) :: vs, zero, cs, zc, fs, hz, hl, hr, hpl, h => by
    obtain ⟨v0, hv0, hcells⟩ := hr 0 (f, a) rfl
    simp at hv0
    obtain ⟨rfl, rfl⟩ := hv0
    simp only [buildA] at h
    split at h
    · cases h
    · rename_i ft off hf
      obtain ⟨hc, h⟩ := of_cond h
      simp only [Bool.and_eq_true] at hc
      have h1 := Nat.eq_of_beq_eq_true hc.1
      have h2 := Nat.le_of_ble_eq_true hc.2
      have hvl : v.cells.size = (ti ft).size := by have := hcells.length; rw [h1] at this; simpa using this
      have hzl : zc.size = zero.length := by have := hz.length; simpa using this
      have hpl' := hpl f' ft off hf
      obtain ⟨hs1, hs2⟩ := fold_set v.cells.toList off 0 zc
      simp only [Instr.fill, hpl']
      rw [if_neg (by rw [hvl, hzl]; simp; omega), fold_set_arr]
      refine fill_rel ps vs _ cs _ fs ?_ (by simpa using hl) (fun i p hp => by have := hr (i + 1) p (by simpa using hp); simpa using this) hpl h
      refine VRels.of_get (by simp only [Array.length_toList, hs1, List.length_append, List.length_take, List.length_drop, hzl]; omega) fun x b hb => ?_
      have hx : x < zc.size := by
        obtain ⟨hlt, _⟩ := List.getElem?_eq_some_iff.mp hb
        simp at hlt; omega
      simp only [Array.getElem?_toList, hs2 x hx, Nat.add_zero]
      rcases Nat.lt_or_ge x off with hxo | hxo
      · rw [if_neg (by omega)]
        rw [List.append_assoc, List.getElem?_append_left (by simp; omega), List.getElem?_take] at hb
        simp only [hxo, if_true] at hb
        obtain ⟨u, hu, hur⟩ := hz.get x b hb
        exact ⟨u, by simpa using hu, hur⟩
      · rcases Nat.lt_or_ge x (off + (ti ft).size) with hxs | hxs
        · rw [if_pos (by simp; omega)]
          rw [List.append_assoc, List.getElem?_append_right (by simp; omega)] at hb
          simp only [List.length_take] at hb
          rw [Nat.min_eq_left (by omega), List.getElem?_append_left (by omega)] at hb
          obtain ⟨u, hu, hur⟩ := hcells.get _ _ hb
          exact ⟨u, by simpa using hu, hur⟩
        · rw [if_neg (by simp; omega)]
          rw [List.getElem?_append_right (by simp; omega), List.getElem?_drop] at hb
          simp only [List.length_append, List.length_take] at hb
          rw [Nat.min_eq_left (by omega), show off + (ti ft).size + (x - (off + (cellsOf a).length)) = x by omega] at hb
          obtain ⟨u, hu, hur⟩ := hz.get x b hb
          exact ⟨u, by simpa using hu, hur⟩

theorem run_mapM {α β : Type} (g : α → Sem β) (h : α → β) (w : World) : ∀ (l : List α), (∀ x ∈ l, (g x).run P w = .ok (h x) w) → (l.mapM g).run P w = .ok (l.map h) w
  | [], _ => by simp
  | x :: l, hx => by
    simp only [List.mapM_cons, Sem.run_bind, hx x (by simp), Result.andThen_ok, run_mapM g h w l (fun y hy => hx y (by simp [hy])), Sem.run_pure, List.map_cons]

theorem run_mapM_arr {α β : Type} (g : α → Sem β) (h : α → β) (w : World) (l : Array α) (hx : ∀ x ∈ l.toList, (g x).run P w = .ok (h x) w) : (l.mapM g).run P w = .ok (l.map h) w := by
  rw [Array.mapM_eq_mapM_toList]
  simp only [Sem.run_map, run_mapM g h w l.toList hx, Result.andThen_ok]
  congr 1
  apply Array.ext'; simp

theorem known_ne {t : TyI} (h : known t = true) : t.kd ≠ .other := by
  intro e; unfold known at h; rw [e] at h; cases h

theorem impl_build (hti : TyOk P ti) {T : TypeId} {parts : Array (Nat × Operand)} {cs : List AVal} (ho : o.op = .build T parts) (hk : (ti T).kd = .struct) (hkn : (ti T).flds.all (fun p => known (ti p.1)) = true)
    (hb : buildA ti (ti T).flds (ti T).zero (parts.toList.map fun p => (p.1, ρ p.2)) = some cs) (hnice : ∀ p ∈ parts.toList, ρ p.2 ≠ .undef ∧ ∀ vs, ρ p.2 ≠ .tuple vs) : Impl P o ρ (.ret (.agg cs)) :=
  impl_ret fun φ a w h => by
    obtain ⟨fs, hfs, hck⟩ := und_struct hti hk
    obtain ⟨z, hz0, hzr, _⟩ := run_zero hti (T := T) (by rw [hk]; simp) w
    have hkn' : ∀ f ∈ fs.toList, (ti f.type).kd ≠ .other := by
      have key : ∀ (l : List (Nat × Nat)) (fl : List Field), fldCheck l fl = true → l.all (fun p => known (ti p.1)) = true → ∀ f ∈ fl, (ti f.type).kd ≠ .other := by
        intro l
        induction l with
        | nil => intro fl hc _ f hf; cases fl <;> simp [fldCheck] at hc; simp at hf
        | cons p l ih =>
          intro fl hc hkn f hf
          cases fl with
          | nil => simp at hf
          | cons f0 fl =>
            simp only [fldCheck, Bool.and_eq_true] at hc
            simp only [List.all_cons, Bool.and_eq_true] at hkn
            simp at hf
            rcases hf with rfl | hf
            · rw [Nat.eq_of_beq_eq_true hc.1.1]; exact known_ne hkn.1
            · exact ih fl hc.2 hkn.2 f hf
      exact key _ _ hck hkn
    have hplaces : (fs.mapM fun f => (do pure (f.offset, ← sizeOf f.type) : Sem (Nat × Nat))).run P w = .ok (fs.map fun f => (f.offset, (ti f.type).size)) w :=
      run_mapM_arr _ _ w fs fun f hf => by simp [run_sizeOf hti (hkn' f hf)]
    obtain ⟨out, hfill, hrel⟩ := fill_rel (ti := ti) (φ := φ) (place := fun i => (fs.map fun f => (f.offset, (ti f.type).size))[i]?) (parts.toList.map fun p => (p.1, ρ p.2)) (parts.toList.map fun p => (p.1, a.eval p.2))
      (ti T).zero cs z.cells (ti T).flds (hzr φ) (by simp)
      (fun i p hp => by
        rw [List.getElem?_map] at hp
        cases hpp : parts.toList[i]? with
        | none => simp [hpp] at hp
        | some q =>
          simp [hpp] at hp; subst hp
          have hq := List.mem_of_getElem? hpp
          refine ⟨a.eval q.2, by simp only [List.getElem?_map, hpp, Option.map_some], cells_rel (h q.2 ?_) (hnice q hq).1 (hnice q hq).2⟩
          simp only [ho, Op.operands]
          simpa using ⟨q.1, by simpa using hq⟩)
      (fun f ft off hf => by
        obtain ⟨F, hF, hty, hoff⟩ := fld_get _ _ hck f ft off hf
        have hF' : fs[f]? = some F := by simpa using hF
        simp [hF', hty, hoff]) hb
    refine ⟨.agg out, ?_, by simp only [VRel]; exact ⟨out.toList, by simp, hrel⟩⟩
    have hp : (parts.map fun (x : Nat × Operand) => (x.1, a.eval x.2)).toList = parts.toList.map fun p => (p.1, a.eval p.2) := by simp
    simp only [execOp, ho, Instr.build, Sem.run_bind, hz0, Result.andThen_ok, run_underlying hfs, hplaces, hp, hfill, Sem.run_pure]

theorem offsOk_at {size : Nat} : ∀ (l : List (Nat × Nat)) (n : Nat), offsOk size n l = true → ∀ (f ft off : Nat), l[f]? = some (ft, off) → off = (n + f) * size
  | [], _, _, f, ft, off, h => by simp at h
  | (t, o) :: l, n, hc, f, ft, off, h => by
    simp only [offsOk, Bool.and_eq_true] at hc
    cases f with
    | zero => simp at h; rw [← h.2, Nat.eq_of_beq_eq_true hc.1]; rfl
    | succ f =>
      have := offsOk_at l (n + 1) hc.2 f ft off (by simpa using h)
      rw [this, show n + 1 + f = n + (f + 1) by omega]

theorem impl_buildArr (hti : TyOk P ti) {T : TypeId} {parts : Array (Nat × Operand)} {cs : List AVal} (ho : o.op = .build T parts) (hk : (ti T).kd = .array) (hel : (ti T).flds.all (fun p => Nat.beq p.1 (ti T).elem) = true)
    (hkn : (ti (ti T).elem).kd ≠ .other) (hof : offsOk (ti (ti T).elem).size 0 (ti T).flds = true)
    (hb : buildA ti (ti T).flds (ti T).zero (parts.toList.map fun p => (p.1, ρ p.2)) = some cs) (hnice : ∀ p ∈ parts.toList, ρ p.2 ≠ .undef ∧ ∀ vs, ρ p.2 ≠ .tuple vs) : Impl P o ρ (.ret (.agg cs)) :=
  impl_ret fun φ a w h => by
    obtain ⟨z, hz0, hzr, _⟩ := run_zero hti (T := T) (by rw [hk]; simp) w
    obtain ⟨out, hfill, hrel⟩ := fill_rel (ti := ti) (φ := φ) (place := fun i => some (i * (ti (ti T).elem).size, (ti (ti T).elem).size)) (parts.toList.map fun p => (p.1, ρ p.2)) (parts.toList.map fun p => (p.1, a.eval p.2))
      (ti T).zero cs z.cells (ti T).flds (hzr φ) (by simp)
      (fun i p hp => by
        rw [List.getElem?_map] at hp
        cases hpp : parts.toList[i]? with
        | none => simp [hpp] at hp
        | some q =>
          simp [hpp] at hp; subst hp
          have hq := List.mem_of_getElem? hpp
          refine ⟨a.eval q.2, by simp only [List.getElem?_map, hpp, Option.map_some], cells_rel (h q.2 ?_) (hnice q hq).1 (hnice q hq).2⟩
          simp only [ho, Op.operands]
          simpa using ⟨q.1, by simpa using hq⟩)
      (fun f ft off hf => by
        have h1 := offsOk_at _ _ hof f ft off hf
        have h2 := List.all_eq_true.mp hel _ (List.mem_of_getElem? hf)
        have h3 := Nat.eq_of_beq_eq_true h2
        simp only at h3
        rw [h1, h3, Nat.zero_add]) hb
    refine ⟨.agg out, ?_, by simp only [VRel]; exact ⟨out.toList, by simp, hrel⟩⟩
    have hp : (parts.map fun (x : Nat × Operand) => (x.1, a.eval x.2)).toList = parts.toList.map fun p => (p.1, a.eval p.2) := by simp
    simp only [execOp, ho, Instr.build, Sem.run_bind, hz0, Result.andThen_ok, run_underlying (und_array hti hk), run_sizeOf hti hkn, hp, hfill, Sem.run_pure]

/-! lengths, least, greatest -/
theorem impl_builtin {b : Builtin} {args : Array Operand} {ats : Array TypeId} {v : AVal} (ho : o.op = .call { callee := .builtin b, args := args, argTypes := ats })
    (h : ∀ (φ : Map) (a : Act) (w : World), (∀ x ∈ args.toList, VRel φ (ρ x) (a.eval x)) → ∃ cv, (builtin b ats o.type (args.map fun | .const _ => true | _ => false) (args.map a.eval)).run P w = .ok (.value cv) w ∧ VRel φ v cv) : Impl P o ρ (.ret v) :=
  impl_ret fun φ a w hρ => by
    obtain ⟨cv, hr, hv⟩ := h φ a w (fun x hx => hρ x (by simp only [ho, Op.operands, Call.operands]; simpa using hx))
    refine ⟨cv, ?_, hv⟩
    simp only [execOp, ho, resolve, Sem.run_bind, Sem.run_pure, Result.andThen_ok, invoke]
    exact hr

theorem impl_len_str (hti : TyOk P ti) {x : Operand} {T : TypeId} {s : ByteArray} (ho : o.op = .call { callee := .builtin .len, args := #[x], argTypes := #[T] }) (hx : ρ x = .str s) (hk : (ti T).kd = .str) :
    Impl P o ρ (.ret (.int .i64 (s.size : Int))) :=
  impl_builtin ho fun φ a w h => by
    have h1 := h x (by simp)
    rw [hx] at h1; simp only [VRel] at h1
    exact ⟨.int .i64 s.size, by simp [builtin, Builtin.len_, h1, run_underlying (und_str hti hk), goInt], by simp [VRel]⟩

theorem impl_len_slice (hti : TyOk P ti) {x : Operand} {T : TypeId} {n : Nat} (ho : o.op = .call { callee := .builtin .len, args := #[x], argTypes := #[T] }) (hk : (ti T).kd = .slice)
    (hx : (ρ x = .nils ∧ n = 0) ∨ ∃ sz b lo cap, ρ x = .slice sz b lo n cap) : Impl P o ρ (.ret (.int .i64 (n : Int))) :=
  impl_builtin ho fun φ a w h => by
    have h1 := h x (by simp)
    have : ∃ ad c, a.eval x = .slice ad n c := by
      rcases hx with ⟨hx, rfl⟩ | ⟨sz, b, lo, cap, hx⟩ <;> rw [hx] at h1 <;> simp only [VRel] at h1
      · exact ⟨_, _, h1⟩
      · obtain ⟨L, ad, c, _, hv, _⟩ := h1; exact ⟨ad, c, hv⟩
    obtain ⟨ad, c, hv⟩ := this
    exact ⟨.int .i64 n, by simp [builtin, Builtin.len_, hv, run_underlying (und_slice hti hk), goInt], by simp [VRel]⟩

theorem minmax_run {R : Type} (mx : Bool) : ∀ (l : List AVal) (x : AVal) (k : AVal → Option R) (r : R), minmaxK mx x l k = some r → ∃ v, k v = some r ∧ ∀ (φ : Map) (us : List Value) (u : Value) (w : World),
      VRel φ x u → VRels φ l us → ∃ cv, (us.foldlM (if mx then Builtin.max2 else Builtin.min2) u).run P w = .ok cv w ∧ VRel φ v cv
  | [], x, k, r, h => by
    refine ⟨x, h, fun φ us u w hx hl => ?_⟩
    simp only [VRels] at hl; subst hl
    exact ⟨u, by simp, hx⟩
  | y :: l, x, k, r, h => by
    simp only [minmaxK] at h
    split at h
    · rename_i kx a ky b
      obtain ⟨hs, h'⟩ := of_cond h
      have e := of_decide_eq_true hs
      subst e
      obtain ⟨v, hv, hr⟩ := minmax_run mx l _ k r h'
      refine ⟨v, hv, fun φ us u w hx hl => ?_⟩
      simp only [VRels, VRel] at hl hx
      obtain ⟨u', us', rfl, rfl, hl⟩ := hl
      subst hx
      obtain ⟨cv, hrun, hcv⟩ := hr φ us' (.int kx (bif mx then (if b > a then b else a) else (if b < a then b else a))) w (by simp [VRel]) hl
      refine ⟨cv, ?_, hcv⟩
      simp only [List.foldlM_cons, Sem.run_bind]
      cases mx <;> simp [Builtin.max2, Builtin.min2] at hrun ⊢ <;> exact hrun
    · cases h

theorem impl_minmax {R : Type} (mx : Bool) {x : Operand} {args : Array Operand} {ats : Array TypeId} {l : List Operand} {k : AVal → Option R} {r : R}
    (ho : o.op = .call { callee := .builtin (if mx then .max else .min), args := args, argTypes := ats }) (hargs : args.toList = x :: l) (h : minmaxK mx (ρ x) (l.map ρ) k = some r) :
    ∃ v, k v = some r ∧ Impl P o ρ (.ret v) := by
  obtain ⟨v, hv, hr⟩ := minmax_run (P := P) mx (l.map ρ) (ρ x) k r h
  refine ⟨v, hv, impl_builtin ho fun φ a w hρ => ?_⟩
  rw [hargs] at hρ
  obtain ⟨cv, hrun, hcv⟩ := hr φ (l.map a.eval) (a.eval x) w (hρ x (by simp)) (map_rel fun y hy => hρ y (by simp [hy]))
  refine ⟨cv, ?_, hcv⟩
  have harr : (args.map a.eval).toList = a.eval x :: l.map a.eval := by simp [hargs]
  cases mx
  · simp only [Bool.false_eq_true, if_false, builtin, Builtin.min_, harr, Sem.run_bind] at hrun ⊢
    rw [hrun]; simp
  · simp only [if_true, builtin, Builtin.max_, harr, Sem.run_bind] at hrun ⊢
    rw [hrun]; simp
end Go.Proofs.YtdgipcjigbagfaaGreat.AB
