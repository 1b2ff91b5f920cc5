/- Each operation does what the interpreter says. -/
import Derived.Test.YtdgipcjigbagfaaGreatFwN
namespace Go.Proofs.YtdgipcjigbagfaaGreat.AB
set_option linter.unusedSimpArgs false
set_option linter.unusedVariables false
variable {P : Program} {ti : Nat → TyI} {o : Oper} {ρ : Operand → AVal}

theorem callK_sound (hti : TyOk P ti) {R : Type} {c : Call} {k : Prim → Option R} {r : R} (ho : o.op = .call c) (h : callK ti ρ c k = some r) : ∃ p, k p = some r ∧ Impl P o ρ p := by
  unfold callK at h
  split at h
  · rename_i b hb
    exact builtinK_sound hti ho hb h
  · rename_i f hf
    split at h
    · rename_i g caps hg
      exact ⟨_, h, impl_call ho hf hg⟩
    · cases h
  · cases h

theorem zOk_spec {t : TyI} (h : zOk t = true) : t.zero.length = t.size ∧ (t.size = 1 ∨ t.agg = true) := by
  unfold zOk at h
  simp only [Bool.and_eq_true, Bool.or_eq_true] at h
  exact ⟨beq_nat h.1, h.2.imp beq_nat id⟩

theorem binK_sound (hti : TyOk P ti) {R : Type} {op : BinOp} {T U : TypeId} {x y : Operand} {k : Prim → Option R} {r : R} (ho : o.op = .binOp op T x y U)
    (h : primK ti ρ (.binOp op T x y U) k = some r) : ∃ p, k p = some r ∧ Impl P o ρ p := by
  simp only [primK] at h
  split at h
  · rename_i hk
    split at h
    · rename_i a b hx hy
      have hc := (of_cond h).1; replace h := (of_cond h).2
      simp only [Bool.and_eq_true] at hc
      split at h
      · rename_i q hq
        exact ⟨_, h, by simpa using impl_struct_eq hti ho hk hc.1 hx hy hc.2 hq (.inl rfl)⟩
      · cases h
    · rename_i a b hx hy
      have hc := (of_cond h).1; replace h := (of_cond h).2
      simp only [Bool.and_eq_true] at hc
      split at h
      · rename_i q hq
        exact ⟨_, h, by simpa using impl_struct_eq hti ho hk hc.1 hx hy hc.2 hq (.inr rfl)⟩
      · cases h
    · cases h
  · rename_i hk
    split at h
    · rename_i hx hy; exact ⟨_, h, by simpa using impl_ptr_nil hti ho hk (.inl rfl) true (.inl ⟨rfl, hx, hy⟩)⟩
    · rename_i hx hy; exact ⟨_, h, by simpa using impl_ptr_nil hti ho hk (.inr rfl) true (.inl ⟨rfl, hx, hy⟩)⟩
    · rename_i hx hy; exact ⟨_, h, by simpa using impl_ptr_nil hti ho hk (.inl rfl) false (.inr ⟨rfl, .inl ⟨hx, _, _, _, hy⟩⟩)⟩
    · rename_i hx hy; exact ⟨_, h, by simpa using impl_ptr_nil hti ho hk (.inr rfl) false (.inr ⟨rfl, .inl ⟨hx, _, _, _, hy⟩⟩)⟩
    · rename_i hx hy; exact ⟨_, h, by simpa using impl_ptr_nil hti ho hk (.inl rfl) false (.inr ⟨rfl, .inr ⟨hy, _, _, _, hx⟩⟩)⟩
    · rename_i hx hy; exact ⟨_, h, by simpa using impl_ptr_nil hti ho hk (.inr rfl) false (.inr ⟨rfl, .inr ⟨hy, _, _, _, hx⟩⟩)⟩
    · cases h
  · rename_i hk
    split at h
    · rename_i a b hx hy; exact ⟨_, h, by simpa using impl_bool hti ho hk hx hy (.inl rfl)⟩
    · rename_i a b hx hy; exact ⟨_, h, by simpa using impl_bool hti ho hk hx hy (.inr rfl)⟩
    · cases h
  · split at h
    · rename_i kx a ky b hx hy
      obtain ⟨v, hv, cv, hvr, hrun⟩ := intK_some h
      exact ⟨_, hv, impl_int ho hx hy hvr hrun⟩
    · cases h
  · split at h
    · rename_i a b hx hy; exact ⟨_, h, by simpa using impl_str ho hx hy (.inl rfl)⟩
    · rename_i a b hx hy; exact ⟨_, h, by simpa using impl_str ho hx hy (.inr rfl)⟩
    · cases h
  · cases h

theorem impl_nilCheck_fptr {x : Operand} {b i j : Nat} (ho : o.op = .nilCheck x) (hx : ρ x = .fptr b i j) : Impl P o ρ (.ret (.fptr b i j)) :=
  impl_ret fun φ a w h => by
    have h1 := h x (by simp [ho, Op.operands])
    rw [hx] at h1
    obtain ⟨L, p, hL, hp, he⟩ := (by simpa only [VRel] using h1 : ∃ L p, φ b = some L ∧ L.fam[i]? = some p ∧ a.eval x = .pointer (some ⟨p.1, p.2 + j, none⟩))
    refine ⟨a.eval x, by simp [execOp, ho, he], h1⟩

theorem impl_fieldAddr_fptr (hti : TyOk P ti) {T : TypeId} {x : Operand} {f ft off b i j : Nat} (ho : o.op = .fieldAddr T x f) (hx : ρ x = .fptr b i j) (hk : (ti T).kd = .struct)
    (hf : (ti T).flds[f]? = some (ft, off)) (hsz : 0 < (ti ft).size) (hft : (ti ft).kd ≠ .other) : Impl P o ρ (.ret (.fptr b i (j + off))) :=
  impl_ret fun φ a w h => by
    have h1 := h x (by simp [ho, Op.operands])
    rw [hx] at h1
    simp only [VRel] at h1
    obtain ⟨L, p, hL, hp, he⟩ := h1
    obtain ⟨fs, hfs, hck⟩ := und_struct hti hk
    obtain ⟨F, hF, hty, hoff⟩ := fld_get _ _ hck f ft off hf
    have hF' : fs[f]? = some F := by simpa using hF
    have hsz' : ¬ (ti F.type).size = 0 := by rw [hty]; omega
    refine ⟨.pointer (some ⟨p.1, p.2 + (j + off), none⟩), ?_, by simp only [VRel]; exact ⟨L, p, hL, hp, rfl⟩⟩
    simp [execOp, ho, he, Instr.fieldAt, run_underlying hfs, hF', Instr.sureAddr, fieldPlace, run_sizeOf hti (T := F.type) (by rw [hty]; exact hft), hsz', add_none, hoff, Nat.add_assoc]

theorem primK_sound (hti : TyOk P ti) {R : Type} {k : Prim → Option R} {r : R} (h : primK ti ρ o.op k = some r) : ∃ p, k p = some r ∧ Impl P o ρ p := by
  cases ho : o.op with
  | binOp op T x y U => rw [ho] at h; exact binK_sound hti ho h
  | call c => rw [ho] at h; exact callK_sound hti ho h
  | move x => rw [ho] at h; exact ⟨_, h, impl_move ho⟩
  | assign x => rw [ho] at h; exact ⟨_, h, impl_assign ho⟩
  | pick c a b =>
    rw [ho] at h; simp only [primK] at h
    split at h
    · rename_i t hc
      refine ⟨_, ?_, impl_pick ho hc⟩
      cases t <;> exact h
    · cases h
  | alloc T =>
    rw [ho] at h; simp only [primK] at h
    have hc := (of_cond h).1; replace h := (of_cond h).2
    simp only [Bool.and_eq_true] at hc
    exact ⟨_, h, impl_alloc hti ho (known_ne hc.1) (beq_nat hc.2)⟩
  | box T x =>
    rw [ho] at h; simp only [primK] at h
    split at h
    · cases h
    · cases h
    · rename_i hu ht
      exact ⟨_, h, impl_box ho hu ht⟩
  | build T parts =>
    rw [ho] at h; simp only [primK] at h
    split at h
    · rename_i hk
      have hc := (of_cond h).1; replace h := (of_cond h).2
      simp only [Bool.and_eq_true] at hc
      split at h
      · rename_i cs hb
        refine ⟨_, h, impl_build hti ho hk hc.1 hb fun p hp => niceA_spec ?_⟩
        exact List.all_eq_true.mp hc.2 p hp
      · cases h
    · rename_i hk
      have hc := (of_cond h).1; replace h := (of_cond h).2
      simp only [Bool.and_eq_true] at hc
      split at h
      · rename_i cs hb
        refine ⟨_, h, impl_buildArr hti ho hk hc.1.1.1 (known_ne hc.1.1.2) hc.1.2 hb fun p hp => niceA_spec ?_⟩
        exact List.all_eq_true.mp hc.2 p hp
      · cases h
    · cases h
  | buildSlice T len parts =>
    rw [ho] at h; simp only [primK] at h
    split at h
    · rename_i t k0 hparts
      have hc := (of_cond h).1; replace h := (of_cond h).2
      simp only [Bool.and_eq_true] at hc
      obtain ⟨⟨⟨⟨hkn, hz⟩, he1⟩, hlen⟩, hord⟩ := hc
      split at h
      · rename_i hk
        exact ⟨_, h, impl_famNew hti ho hk (known_ne hkn) (beq_nat hz) (beq_nat he1) (beq_nat hlen) hord hparts⟩
      · cases h
    have hc := (of_cond h).1; replace h := (of_cond h).2
    simp only [Bool.and_eq_true] at hc
    obtain ⟨⟨⟨⟨⟨⟨hkn, hz⟩, hcs⟩, hpos⟩, hlen⟩, hord⟩, hbig⟩ := hc
    split at h
    · rename_i l hk hd
      have hcs' := beq_nat hcs
      have hpos' := blt_nat hpos
      exact ⟨_, h, impl_buildSlice hti ho hk (known_ne hkn) (beq_nat hz) hcs' hpos' (beq_nat hlen) hord (Nat.le_of_ble_eq_true hbig) hd (nice_of_decAll (by omega) _ _ hd)⟩
    · rename_i hk hd
      have hc := (of_cond h).1; replace h := (of_cond h).2
      simp only [Bool.and_eq_true] at hc
      exact ⟨_, h, impl_buildCells hti ho hk (known_ne hkn) (beq_nat hz) (beq_nat hc.1) (beq_nat hlen) hord (Nat.le_of_ble_eq_true hbig) hc.2⟩
    · cases h
  | load T a =>
    rw [ho] at h; simp only [primK] at h
    split at h
    · rename_i b i j hx
      have hc := (of_cond h).1; replace h := (of_cond h).2
      exact ⟨_, h, impl_load hti ho hx (known_ne hc)⟩
    · rename_i b i j hx
      have hc := (of_cond h).1; replace h := (of_cond h).2
      exact ⟨_, h, impl_loadF hti ho hx (known_ne hc)⟩
    · cases h
  | store T a x =>
    rw [ho] at h; simp only [primK] at h
    split at h
    · cases h
    · cases h
    · rename_i b i j hx hu ht
      have hc := (of_cond h).1; replace h := (of_cond h).2
      simp only [Bool.and_eq_true] at hc
      exact ⟨_, h, impl_store hti ho hx (known_ne hc.1.1) (beq_nat hc.1.2) hc.2 hu ht⟩
    · cases h
    · cases h
    · rename_i b i j hx hu ht
      have hc := (of_cond h).1; replace h := (of_cond h).2
      simp only [Bool.and_eq_true] at hc
      exact ⟨_, h, impl_storeF hti ho hx (known_ne hc.1.1) (beq_nat hc.1.2) hc.2 hu ht⟩
    · cases h
  | nilCheck x =>
    rw [ho] at h; simp only [primK] at h
    split at h
    · rename_i b i j hx; exact ⟨_, h, impl_nilCheck_ptr ho hx⟩
    · rename_i b i j hx; exact ⟨_, h, impl_nilCheck_fptr ho hx⟩
    · rename_i f cs hx; exact ⟨_, h, impl_nilCheck_func ho hx⟩
    · cases h
  | unOp op T x =>
    rw [ho] at h; simp only [primK] at h
    split at h
    · rename_i b hx; exact ⟨_, h, impl_not ho hx⟩
    · rename_i i n hx; exact ⟨_, h, impl_neg ho hx⟩
    · cases h
  | convert S T x =>
    rw [ho] at h; simp only [primK] at h
    split at h
    · rename_i hS hx hT; exact ⟨_, h, impl_convert_int hti ho hS hT hx⟩
    · rename_i hS hx hT; exact ⟨_, h, impl_convert_str hti ho hS hT hx⟩
    · cases h
  | makeInterface T x =>
    rw [ho] at h; simp only [primK] at h
    split at h
    · cases h
    · cases h
    · rename_i h1 h2
      exact ⟨_, h, impl_makeInterface hti ho h1 h2⟩
  | makeFunc fn first caps =>
    rw [ho] at h
    cases fn <;> simp only [primK] at h <;> try (cases h; done)
    have hc := (of_cond h).1; replace h := (of_cond h).2
    exact ⟨_, h, impl_makeFunc ho (beq_nat hc)⟩
  | slice T x lo hi mx =>
    rw [ho] at h; simp only [primK] at h
    split at h
    · obtain ⟨v, hv, hi⟩ := sliceK_sound hti ho h
      exact ⟨_, hv, hi⟩
    · cases h
  | fieldAddr T x f =>
    rw [ho] at h; simp only [primK, fldA] at h
    split at h
    · rename_i hk hx hf
      have hc := (of_cond h).1; replace h := (of_cond h).2
      simp only [Bool.and_eq_true] at hc
      exact ⟨_, h, impl_fieldAddr hti ho hx hk hf (blt_nat hc.2) (known_ne hc.1)⟩
    · rename_i hk hx hf
      have hc := (of_cond h).1; replace h := (of_cond h).2
      simp only [Bool.and_eq_true] at hc
      exact ⟨_, h, impl_fieldAddr_fptr hti ho hx hk hf (blt_nat hc.2) (known_ne hc.1)⟩
    · cases h
  | field T x f =>
    rw [ho] at h; simp only [primK, fldA] at h
    split at h
    · rename_i hk hx hf
      have hc := (of_cond h).1; replace h := (of_cond h).2
      split at h
      · rename_i v hv
        exact ⟨_, h, impl_field hti ho hx hk hf (known_ne hc) hv⟩
      · cases h
    · cases h
  | indexAddr T x i =>
    rw [ho] at h; simp only [primK] at h
    split at h
    · rename_i hk hx hi
      have hc := (of_cond h).1; replace h := (of_cond h).2
      simp only [Bool.and_eq_true] at hc
      have hc' := (of_cond h).1; replace h := (of_cond h).2
      exact ⟨_, h, impl_indexAddr hti ho hk hx hi (beq_nat hc.2) (known_ne hc.1) hc'⟩
    · rename_i hk hx hi
      have hc := (of_cond h).1; replace h := (of_cond h).2
      have hc' := (of_cond h).1; replace h := (of_cond h).2
      exact ⟨_, h, impl_indexArr hti ho hk hx hi (known_ne hc) hc'⟩
    · cases h
  | index T x i =>
    rw [ho] at h; simp only [primK] at h
    split at h
    · rename_i hk hx hi
      have hc := (of_cond h).1; replace h := (of_cond h).2
      exact ⟨_, h, impl_index_str hti ho hk hx hi hc⟩
    · cases h
  | typeAssert x X T ok =>
    rw [ho] at h; simp only [primK] at h
    split at h
    · cases h
    · cases h
    · rename_i hx h1 h2
      have hc := (of_cond h).1; replace h := (of_cond h).2
      simp only [Bool.and_eq_true] at hc
      cases ok
      · cases hc.1
      · exact ⟨_, h, impl_typeAssert_nil hti ho hx h1 h2 (zOk_spec hc.2)⟩
    · rename_i t v hx h1 h2
      cases hb : Nat.beq t T with
      | true =>
        rw [hb] at h; simp only [cond_true] at h
        have e := beq_nat hb
        subst e
        refine ⟨_, ?_, impl_typeAssert_yes hti ho hx h1 h2⟩
        cases ok <;> exact h
      | false =>
        rw [hb] at h; simp only [cond_false] at h
        have hc := (of_cond h).1; replace h := (of_cond h).2
        simp only [Bool.and_eq_true] at hc
        cases ok
        · cases hc.1
        · exact ⟨_, h, impl_typeAssert_no hti ho hx (fun e => by subst e; rw [Nat.beq_refl] at hb; cases hb) h1 h2 (zOk_spec hc.2)⟩
    · cases h
  | extract x i =>
    rw [ho] at h; simp only [primK] at h
    split at h
    · rename_i vs hx
      split at h
      · rename_i v hv; exact ⟨_, h, impl_extract ho hx hv⟩
      · cases h
    · cases h
  | _ => rw [ho] at h; simp only [primK] at h; cases h
end Go.Proofs.YtdgipcjigbagfaaGreat.AB
