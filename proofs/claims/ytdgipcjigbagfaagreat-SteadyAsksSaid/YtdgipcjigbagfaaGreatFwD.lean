/- Operations that only compute, and those that read. -/
import Derived.Test.YtdgipcjigbagfaaGreatFwC
namespace Go.Proofs.YtdgipcjigbagfaaGreat.AB
set_option linter.unusedSimpArgs false
set_option linter.unusedVariables false

theorem of_cond {α : Type} {c : Bool} {k : Option α} {r : α} (h : (bif c then k else none) = some r) : c = true ∧ k = some r := by
  cases c
  · cases h
  · exact ⟨rfl, h⟩
theorem of_cond' {α : Type} {c : Bool} {k : Option α} {r : α} (h : (bif c then none else k) = some r) : c = false ∧ k = some r := by
  cases c
  · exact ⟨rfl, h⟩
  · cases h

variable {P : Program} {ti : Nat → TyI} {o : Oper} {ρ : Operand → AVal}

theorem impl_ret {v : AVal} (h : ∀ (φ : Map) (a : Act) (w : World), (∀ x ∈ o.op.operands.toList, VRel φ (ρ x) (a.eval x)) →
    ∃ cv, (execOp a.eval o).run P w = .ok (.value cv) w ∧ VRel φ v cv) : Impl P o ρ (.ret v) := by
  intro B φ ψ G w a n v' G' rd wr nn hρ g hfr hm hp next Q hk
  cases hp
  obtain ⟨cv, hr, hv⟩ := h φ a w hρ
  unfold Oper.wp
  rw [hr]
  exact hk φ ψ w cv g (Ext.refl φ) (fun b hb => .inl hb) hv

theorem impl_rd {b i : Nat} {f : List AVal → Option AVal}
    (h : ∀ (φ : Map) (a : Act) (w : World) (L : Loc) (arr : Array Value) (e : TypeId) (fz : Nat × Nat) (cs : List AVal) (v : AVal),
      (∀ x ∈ o.op.operands.toList, VRel φ (ρ x) (a.eval x)) → φ b = some L → w.heap[L.blk]? = some (.cells arr e fz) →
      (∀ j x, cs[j]? = some x → ∃ u, arr[L.off + i * L.size + j]? = some u ∧ VRel φ x u) → cs.length = L.size → f cs = some v →
      ∃ cv, (execOp a.eval o).run P w = .ok (.value cv) w ∧ VRel φ v cv) : Impl P o ρ (.rd b i f) := by
  intro B φ ψ G w a n v' G' rd wr nn hρ g hfr hm hp next Q hk
  cases hp
  case rdS t c l fm x hx hG hf =>
    obtain ⟨L, hL, hs, hc, hown, hcl, hlies, hfam⟩ := g.s.rel b (by rw [hG]; rfl)
    rw [hG] at hs hc hcl hlies hfam
    have hlt : i < l.length := (List.getElem?_eq_some_iff.mp hx).1
    simp only [Blk.size, Blk.cnt] at hs hc hcl
    have h0 : L.lim ≠ 0 := by omega
    obtain ⟨_, arr, e, fz, hh, _, _, _⟩ := hlies h0
    obtain ⟨u, hu, hur⟩ := hfam.cells h0 arr e fz hh i x hx
    have hcell : ∀ j y, (cellA t b x)[j]? = some y → ∃ u, arr[L.off + i * L.size + j]? = some u ∧ VRel φ y u := by
      intro j y hy
      have hj : j = 0 := by
        have := (List.getElem?_eq_some_iff.mp hy).1
        cases x <;> simp [cellA] at this <;> exact this
      subst hj
      rw [hs]
      refine ⟨u, by simpa using hu, ?_⟩
      cases x with
      | none => simp [cellA] at hy; subst hy; simp only [CellIs] at hur; subst hur; simp [VRel]
      | some q =>
        simp [cellA] at hy; subst hy
        obtain ⟨p, hp, rfl⟩ := hur
        simp only [VRel]
        exact ⟨_, rfl, L, p, hL, hp, rfl⟩
    obtain ⟨cv, hrun, hv⟩ := h φ a w L arr e fz (cellA t b x) v' hρ hL hh hcell (by rw [hs]; cases x <;> rfl) hf
    unfold Oper.wp
    rw [hrun]
    exact hk φ ψ w cv g (Ext.refl φ) (fun b hb => .inl hb) hv
  rename_i cs hrow hf
  have hlive : (G b).live = true := by
    cases hG : G b with
    | dead => rw [hG] at hrow; simp [Blk.rowAt] at hrow
    | var _ => rfl
    | rows _ _ _ => rfl
    | fam _ _ _ _ => rfl
    | cells _ => rfl
  obtain ⟨L, hL, hs, hc, hr⟩ := (g.s.rel b).parts hlive (rowAt_isFam hrow)
  have hlt := Blk.rowAt_lt hrow
  rcases hr with ⟨_, h0, _⟩ | ⟨_, _, arr, e, fz, hh, _, _, hcell⟩
  · omega
  · obtain ⟨cv, hrun, hv⟩ := h φ a w L arr e fz cs v' hρ hL hh (hcell i cs hrow) (by rw [Blk.rowAt_length hrow, hs]) hf
    unfold Oper.wp
    rw [hrun]
    exact hk φ ψ w cv g (Ext.refl φ) (fun b hb => .inl hb) hv

theorem cell_at {w : World} {blk : Nat} {arr : Array Value} {e : TypeId} {fz : Nat × Nat} (h : w.heap[blk]? = some (.cells arr e fz)) (i : Nat) :
    w.cell? ⟨blk, i, none⟩ = arr[i]? := by simp [World.cell?, h]

theorem add_none (b off n : Nat) : Addr.add ⟨b, off, none⟩ n = ⟨b, off + n, none⟩ := by
  unfold Addr.add
  split
  · rename_i h; subst h; simp
  · rfl

section
variable (hti : TyOk P ti)
include hti

theorem und_of {T : Nat} (h : (ti T).kd ≠ .other) : ∃ d, P.underlying T = some d ∧ KdRel (ti T) d := by
  obtain ⟨i, d, z, t⟩ := hti T h
  exact ⟨d, t.und, t.kd⟩

theorem und_slice {T : Nat} (h : (ti T).kd = .slice) : P.underlying T = some (.slice (ti T).elem) := by
  obtain ⟨d, hd, hk⟩ := und_of hti (T := T) (by rw [h]; simp)
  simp only [KdRel, h] at hk; rw [hd, hk]

theorem und_str {T : Nat} (h : (ti T).kd = .str) : P.underlying T = some .string := by
  obtain ⟨d, hd, hk⟩ := und_of hti (T := T) (by rw [h]; simp)
  simp only [KdRel, h] at hk; rw [hd, hk]

theorem und_int {T : Nat} {k : IntKind} (h : (ti T).kd = .int k) : P.underlying T = some (.int k) := by
  obtain ⟨d, hd, hk⟩ := und_of hti (T := T) (by rw [h]; simp)
  simp only [KdRel, h] at hk; rw [hd, hk]

theorem und_bool {T : Nat} (h : (ti T).kd = .bool) : P.underlying T = some .bool := by
  obtain ⟨d, hd, hk⟩ := und_of hti (T := T) (by rw [h]; simp)
  simp only [KdRel, h] at hk; rw [hd, hk]

theorem und_ptr {T : Nat} (h : (ti T).kd = .ptr) : ∃ e, P.underlying T = some (.pointer e) := by
  obtain ⟨d, hd, hk⟩ := und_of hti (T := T) (by rw [h]; simp)
  simp only [KdRel, h] at hk; obtain ⟨e, rfl⟩ := hk; exact ⟨e, hd⟩

theorem und_struct {T : Nat} (h : (ti T).kd = .struct) : ∃ fs, P.underlying T = some (.struct fs) ∧ fldCheck (ti T).flds fs.toList = true := by
  obtain ⟨d, hd, hk⟩ := und_of hti (T := T) (by rw [h]; simp)
  simp only [KdRel, h] at hk; obtain ⟨fs, rfl, hf⟩ := hk; exact ⟨fs, hd, hf⟩

theorem und_array {T : Nat} (h : (ti T).kd = .array) : P.underlying T = some (.array (ti T).flds.length (ti T).elem) := by
  obtain ⟨d, hd, hk⟩ := und_of hti (T := T) (by rw [h]; simp)
  simp only [KdRel, h] at hk; rw [hd, hk]

omit hti in
theorem fld_get : ∀ (l : List (Nat × Nat)) (fs : List Field), fldCheck l fs = true → ∀ (f : Nat) (ft off : Nat), l[f]? = some (ft, off) → ∃ F, fs[f]? = some F ∧ F.type = ft ∧ F.offset = off
  | [], [], _, f, ft, off, h => by simp at h
  | [], _ :: _, hc, _, _, _, _ => by simp [fldCheck] at hc
  | _ :: _, [], hc, _, _, _, _ => by simp [fldCheck] at hc
  | (t, o) :: l, F :: fs, hc, f, ft, off, h => by
    simp only [fldCheck, Bool.and_eq_true] at hc
    cases f with
    | zero =>
      simp at h
      exact ⟨F, rfl, by rw [Nat.eq_of_beq_eq_true hc.1.1, h.1], by rw [Nat.eq_of_beq_eq_true hc.1.2, h.2]⟩
    | succ f => simpa using fld_get l fs hc.2 f ft off (by simpa using h)

theorem run_isAgg {T : Nat} (h : (ti T).kd ≠ .other) (w : World) : (isAgg T).run P w = .ok (ti T).agg w := by
  obtain ⟨d, hd, hk⟩ := und_of hti h
  unfold isAgg
  simp only [Sem.run_bind, run_underlying hd, Result.andThen_ok]
  unfold KdRel at hk
  unfold TyI.agg
  split at hk
  case h_10 => exact hk.elim
  case h_4 hkd => obtain ⟨_, rfl⟩ := hk; simp [hkd]
  case h_6 hkd => obtain ⟨_, rfl, _⟩ := hk; simp [hkd]
  case h_8 hkd => obtain ⟨_, rfl⟩ := hk; simp [hkd]
  case h_9 hkd => obtain ⟨_, _, _, rfl⟩ := hk; simp [hkd]
  all_goals (rename_i hkd; subst hk; simp [hkd])

theorem run_sizeOf {T : Nat} (h : (ti T).kd ≠ .other) (w : World) : (sizeOf T).run P w = .ok (ti T).size w := by
  obtain ⟨i, d, z, t⟩ := hti T h
  simp [sizeOf, typeInfo, t.info, t.size]

theorem run_zero {T : Nat} (h : (ti T).kd ≠ .other) (w : World) : ∃ z, (zeroValue T).run P w = .ok z w ∧ (∀ φ, VRels φ (ti T).zero z.cells.toList) ∧ (∀ φ, (ti T).zero.length = (ti T).size → VRel φ (zeroA (ti T)) z ∨ (ti T).size ≠ 1 ∧ (ti T).agg = false) := by
  obtain ⟨i, d, z, t⟩ := hti T h
  refine ⟨z, by simp [zeroValue, typeInfo, t.info, t.zero], t.zrel, fun φ hl => ?_⟩
  have hz := t.zagg
  have hr := t.zrel φ
  unfold zeroA
  unfold TyI.agg at hz ⊢
  split
  · rename_i hk
    simp only [hk] at hz
    cases z <;> simp [isAggV] at hz
    left
    simp only [Value.cells] at hr
    simp only [VRel]
    exact ⟨_, rfl, hr⟩
  · rename_i hk
    simp only [hk] at hz
    cases z <;> simp [isAggV] at hz
    left
    simp only [Value.cells] at hr
    simp only [VRel]
    exact ⟨_, rfl, hr⟩
  · rename_i hk hka
    by_cases h1 : (ti T).size = 1
    · left
      rw [h1] at hl
      obtain ⟨x, hx⟩ := List.length_eq_one_iff.mp hl
      have hzf : isAggV z = false := by
        rw [hz]
        split
        · rename_i hk2; exact absurd hk2 hk
        · rename_i hk2; exact absurd hk2 hka
        · rfl
      rw [hx] at hr ⊢
      simp only [VRels] at hr
      obtain ⟨u, us', e, hu, rfl⟩ := hr
      cases z <;> simp [isAggV] at hzf <;> simp [Value.cells] at e <;> subst e <;> simpa using hu
    · right
      refine ⟨h1, ?_⟩
      first | rfl | (split <;> first | rfl | (rename_i hk2; exact absurd hk2 hk) | (rename_i hk2; exact absurd hk2 hka))
end

/-! plain moves -/
theorem impl_move {x : Operand} (ho : o.op = .move x) : Impl P o ρ (.ret (ρ x)) :=
  impl_ret fun φ a w h => ⟨a.eval x, by simp [execOp, ho], h x (by simp [ho, Op.operands])⟩
theorem impl_assign {x : Operand} (ho : o.op = .assign x) : Impl P o ρ (.ret (ρ x)) :=
  impl_ret fun φ a w h => ⟨a.eval x, by simp [execOp, ho], h x (by simp [ho, Op.operands])⟩
theorem impl_pick {c x y : Operand} {t : Bool} (ho : o.op = .pick c x y) (hc : ρ c = .bool t) : Impl P o ρ (.ret (bif t then ρ x else ρ y)) :=
  impl_ret fun φ a w h => by
    have h1 := h c (by simp [ho, Op.operands])
    rw [hc] at h1
    simp only [VRel] at h1
    refine ⟨if t then a.eval x else a.eval y, by simp [execOp, ho, h1, asBool], ?_⟩
    cases t
    · simpa using h y (by simp [ho, Op.operands])
    · simpa using h x (by simp [ho, Op.operands])

theorem impl_nilCheck_ptr {x : Operand} {b i j : Nat} (ho : o.op = .nilCheck x) (hx : ρ x = .ptr b i j) : Impl P o ρ (.ret (.ptr b i j)) :=
  impl_ret fun φ a w h => by
    have h1 := h x (by simp [ho, Op.operands])
    rw [hx] at h1
    obtain ⟨L, hL, he⟩ := (by simpa only [VRel] using h1 : ∃ L, φ b = some L ∧ a.eval x = .pointer (some ⟨L.blk, L.off + i * L.size + j, none⟩))
    refine ⟨a.eval x, by simp [execOp, ho, he], h1⟩

theorem impl_nilCheck_func {x : Operand} {f : Nat} {cs : List AVal} (ho : o.op = .nilCheck x) (hx : ρ x = .func f cs) : Impl P o ρ (.ret (.func f cs)) :=
  impl_ret fun φ a w h => by
    have h1 := h x (by simp [ho, Op.operands])
    rw [hx] at h1
    obtain ⟨us, he, hs⟩ := (by simpa only [VRel] using h1 : ∃ us : List Value, a.eval x = .func (.func f) #[] us.toArray ∧ VRels φ cs us)
    refine ⟨a.eval x, by simp [execOp, ho, he], h1⟩

theorem impl_not {T : TypeId} {x : Operand} {b : Bool} (ho : o.op = .unOp .not T x) (hx : ρ x = .bool b) : Impl P o ρ (.ret (.bool (!b))) :=
  impl_ret fun φ a w h => by
    have h1 := h x (by simp [ho, Op.operands])
    rw [hx] at h1
    simp only [VRel] at h1
    exact ⟨.bool (!b), by simp [execOp, ho, h1, Op.unary], by simp [VRel]⟩

theorem impl_neg {T : TypeId} {x : Operand} {k : IntKind} {n : Int} (ho : o.op = .unOp .neg T x) (hx : ρ x = .int k n) : Impl P o ρ (.ret (.int k (k.wrap (0 - n)))) :=
  impl_ret fun φ a w h => by
    have h1 := h x (by simp [ho, Op.operands])
    rw [hx] at h1
    simp only [VRel] at h1
    exact ⟨.int k (k.wrap (0 - n)), by simp [execOp, ho, h1, Op.unary, Op.intArith], by simp [VRel]⟩

theorem impl_convert_int (hti : TyOk P ti) {S T : TypeId} {x : Operand} {k j i : IntKind} {n : Int} (ho : o.op = .convert S T x) (hS : (ti S).kd = .int i) (hT : (ti T).kd = .int j) (hx : ρ x = .int k n) :
    Impl P o ρ (.ret (.int j (j.wrap n))) :=
  impl_ret fun φ a w h => by
    have h1 := h x (by simp [ho, Op.operands])
    rw [hx] at h1
    simp only [VRel] at h1
    exact ⟨.int j (j.wrap n), by simp [execOp, ho, h1, convert, run_underlying (und_int hti hS), run_underlying (und_int hti hT), Conv.intToInt], by simp [VRel]⟩

theorem impl_convert_str (hti : TyOk P ti) {S T : TypeId} {x : Operand} {s : ByteArray} (ho : o.op = .convert S T x) (hS : (ti S).kd = .str) (hT : (ti T).kd = .str) (hx : ρ x = .str s) :
    Impl P o ρ (.ret (.str s)) :=
  impl_ret fun φ a w h => by
    have h1 := h x (by simp [ho, Op.operands])
    rw [hx] at h1
    simp only [VRel] at h1
    exact ⟨.string s, by simp [execOp, ho, h1, convert, run_underlying (und_str hti hS), run_underlying (und_str hti hT)], by simp [VRel]⟩

theorem impl_makeInterface (hti : TyOk P ti) {T : TypeId} {x : Operand} (ho : o.op = .makeInterface T x) (h1 : (ti T).kd ≠ .iface) (h2 : (ti T).kd ≠ .other) :
    Impl P o ρ (.ret (.iface T (ρ x))) :=
  impl_ret fun φ a w h => by
    have hx := h x (by simp [ho, Op.operands])
    obtain ⟨d, hd, hk⟩ := und_of hti h2
    refine ⟨.iface T (a.eval x), ?_, by simp only [VRel]; exact ⟨_, rfl, hx⟩⟩
    have hnot : ∀ ms, d ≠ .interface ms := by
      intro ms e
      subst e
      unfold KdRel at hk
      split at hk <;> first | (exact absurd (by assumption) h1) | simp at hk
    simp only [execOp, ho, Instr.makeInterface, Sem.run_bind, run_underlying hd, Result.andThen_ok]
    first | (simp; done) | (split <;> first | (rename_i ms; exact absurd rfl (hnot ms)) | simp)

theorem map_rel {φ : Map} {a : Act} {l : List Operand} (h : ∀ y ∈ l, VRel φ (ρ y) (a.eval y)) : VRels φ (l.map ρ) (l.map a.eval) := by
  refine VRels.of_get (by simp) fun j x hx => ?_
  rw [List.getElem?_map] at hx ⊢
  cases hc : l[j]? with
  | none => simp [hc] at hx
  | some y =>
    simp [hc] at hx ⊢; subst hx
    exact h y (List.mem_of_getElem? hc)

theorem impl_makeFunc {f : Nat} {first caps : Array Operand} (ho : o.op = .makeFunc (.func f) first caps) (hf : first.toList.length = 0) :
    Impl P o ρ (.ret (.func f (caps.toList.map ρ))) :=
  impl_ret fun φ a w h => by
    have hf0 : first = #[] := by
      apply Array.ext'
      simpa using hf
    subst hf0
    refine ⟨.func (.func f) #[] (caps.map a.eval), by simp [execOp, ho, Instr.makeFunc], ?_⟩
    simp only [VRel]
    refine ⟨caps.toList.map a.eval, by congr 1; apply Array.ext'; simp, map_rel fun y hy => h y (by simp [ho, Op.operands]; exact Array.mem_toList_iff.mp hy)⟩

theorem impl_fieldAddr (hti : TyOk P ti) {T : TypeId} {x : Operand} {f ft off b i j : Nat} (ho : o.op = .fieldAddr T x f) (hx : ρ x = .ptr b i j) (hk : (ti T).kd = .struct)
    (hf : (ti T).flds[f]? = some (ft, off)) (hsz : 0 < (ti ft).size) (hft : (ti ft).kd ≠ .other) : Impl P o ρ (.ret (.ptr b i (j + off))) :=
  impl_ret fun φ a w h => by
    have h1 := h x (by simp [ho, Op.operands])
    rw [hx] at h1
    simp only [VRel] at h1
    obtain ⟨L, hL, he⟩ := h1
    obtain ⟨fs, hfs, hck⟩ := und_struct hti hk
    obtain ⟨F, hF, hty, hoff⟩ := fld_get _ _ hck f ft off hf
    have hF' : fs[f]? = some F := by simpa using hF
    have hsz' : ¬ (ti F.type).size = 0 := by rw [hty]; omega
    refine ⟨.pointer (some ⟨L.blk, L.off + i * L.size + (j + off), none⟩), ?_, by simp only [VRel]; exact ⟨L, hL, rfl⟩⟩
    simp [execOp, ho, he, Instr.fieldAt, run_underlying hfs, hF', Instr.sureAddr, fieldPlace, run_sizeOf hti (T := F.type) (by rw [hty]; exact hft), hsz', add_none, hoff, Nat.add_assoc]

theorem impl_indexAddr (hti : TyOk P ti) {T : TypeId} {x ix : Operand} {sz b lo len : Nat} {cap : Option Nat} {k : IntKind} {n : Int} (ho : o.op = .indexAddr T x ix) (hk : (ti T).kd = .slice)
    (hx : ρ x = .slice sz b lo len cap) (hi : ρ ix = .int k n) (hsz : sz = (ti (ti T).elem).size) (he : (ti (ti T).elem).kd ≠ .other) (hin : inB n len = true) : Impl P o ρ (.ret (.ptr b (n.toNat + lo) 0)) :=
  impl_ret fun φ a w h => by
    have h1 := h x (by simp [ho, Op.operands])
    have h2 := h ix (by simp [ho, Op.operands])
    rw [hx] at h1
    rw [hi] at h2
    simp only [VRel] at h1 h2
    obtain ⟨L, ad, c, hL, hv, hs, hcnt, hlc, hlim, had, _⟩ := h1
    unfold inB at hin
    have hin' := of_decide_eq_true hin
    have had' : ad = some ⟨L.blk, L.off + lo * L.size, none⟩ := by
      rcases had with h0 | h0
      · exfalso; omega
      · exact h0
    subst had'
    refine ⟨.pointer (some ⟨L.blk, L.off + (n.toNat + lo) * L.size + 0, none⟩), ?_, by simp only [VRel]; exact ⟨L, hL, rfl⟩⟩
    have hadd : L.off + lo * L.size + n.toNat * (ti (ti T).elem).size = L.off + (n.toNat + lo) * L.size := by rw [← hsz, ← hs, Nat.add_mul]; omega
    simp [execOp, ho, hv, h2, Instr.indexAt, asIntOf, run_underlying (und_slice hti hk), hin', run_sizeOf hti he, add_none, hadd]

theorem impl_indexArr (hti : TyOk P ti) {T : TypeId} {x ix : Operand} {b r j : Nat} {k : IntKind} {n : Int} (ho : o.op = .indexAddr T x ix) (hk : (ti T).kd = .array)
    (hx : ρ x = .ptr b r j) (hi : ρ ix = .int k n) (he : (ti (ti T).elem).kd ≠ .other) (hin : inB n (ti T).flds.length = true) : Impl P o ρ (.ret (.ptr b r (j + n.toNat * (ti (ti T).elem).size))) :=
  impl_ret fun φ a w h => by
    have h1 := h x (by simp [ho, Op.operands])
    have h2 := h ix (by simp [ho, Op.operands])
    rw [hx] at h1
    rw [hi] at h2
    simp only [VRel] at h1 h2
    obtain ⟨L, hL, hv⟩ := h1
    unfold inB at hin
    have hin' := of_decide_eq_true hin
    refine ⟨.pointer (some ⟨L.blk, L.off + r * L.size + (j + n.toNat * (ti (ti T).elem).size), none⟩), ?_, by simp only [VRel]; exact ⟨L, hL, rfl⟩⟩
    simp [execOp, ho, hv, h2, Instr.indexAt, asIntOf, run_underlying (und_array hti hk), hin', run_sizeOf hti he, Instr.sureAddr, add_none, Nat.add_assoc]

theorem impl_extract {x : Operand} {i : Nat} {vs : List AVal} {v : AVal} (ho : o.op = .extract x i) (hx : ρ x = .tuple vs) (hv : vs[i]? = some v) : Impl P o ρ (.ret v) :=
  impl_ret fun φ a w h => by
    have h1 := h x (by simp [ho, Op.operands])
    rw [hx] at h1
    simp only [VRel] at h1
    obtain ⟨us, he, hs⟩ := h1
    obtain ⟨u, hu, hr⟩ := hs.get i v hv
    refine ⟨u, ?_, hr⟩
    have hu' : us.toArray[i]? = some u := by simpa using hu
    simp [execOp, ho, he, Instr.extract, hu']

/-- a value out of cells -/
theorem part_rel (hti : TyOk P ti) {T : Nat} {cs : List AVal} {us : List Value} {j : Nat} {v : AVal} {φ : Map} (hT : (ti T).kd ≠ .other) (h : VRels φ cs us) (hp : partA (ti T) cs j = some v) (w : World) :
    ∃ cv, (part T us.toArray j).run P w = .ok cv w ∧ VRel φ v cv := by
  unfold partA at hp
  unfold part
  simp only [Sem.run_bind, run_isAgg hti hT, Result.andThen_ok]
  cases ha : (ti T).agg with
  | true =>
    simp only [ha, cond_true] at hp
    obtain ⟨hb, hp⟩ := of_cond hp
    · injection hp with hp; subst hp
      refine ⟨.agg ((us.drop j).take (ti T).size).toArray, ?_, by simp only [VRel]; exact ⟨_, rfl, (h.drop j).take _⟩⟩
      simp only [if_true, Sem.run_bind, run_sizeOf hti hT, Result.andThen_ok, Sem.run_pure]
      congr 2
      apply Array.ext'
      simp [List.take_drop]
  | false =>
    simp only [ha, cond_false] at hp
    have hj : cs[j]? = some v := by
      have : (cs.drop j)[0]? = some v := by
        split at hp
        · rename_i e; rw [e]; simpa using hp
        · cases hp
      simpa using this
    obtain ⟨u, hu, hr⟩ := h.get j v hj
    refine ⟨u, ?_, hr⟩
    have hu' : us.toArray[j]? = some u := by simpa using hu
    simp [hu']

theorem impl_field (hti : TyOk P ti) {T : TypeId} {x : Operand} {f ft off : Nat} {cs : List AVal} {v : AVal} (ho : o.op = .field T x f) (hx : ρ x = .agg cs) (hk : (ti T).kd = .struct)
    (hf : (ti T).flds[f]? = some (ft, off)) (hft : (ti ft).kd ≠ .other) (hp : partA (ti ft) cs off = some v) : Impl P o ρ (.ret v) :=
  impl_ret fun φ a w h => by
    have h1 := h x (by simp [ho, Op.operands])
    rw [hx] at h1
    simp only [VRel] at h1
    obtain ⟨us, he, hs⟩ := h1
    obtain ⟨fs, hfs, hck⟩ := und_struct hti hk
    obtain ⟨F, hF, hty, hoff⟩ := fld_get _ _ hck f ft off hf
    have hF' : fs[f]? = some F := by simpa using hF
    obtain ⟨cv, hrun, hr⟩ := part_rel hti hft hs hp w
    refine ⟨cv, ?_, hr⟩
    simp [execOp, ho, he, Instr.field, run_underlying hfs, hF', asAgg, hty, hoff, hrun]

theorem impl_typeAssert_nil (hti : TyOk P ti) {x : Operand} {X T : TypeId} (ho : o.op = .typeAssert x X T true) (hx : ρ x = .nili) (h1 : (ti T).kd ≠ .iface) (h2 : (ti T).kd ≠ .other)
    (hz : (ti T).zero.length = (ti T).size ∧ ((ti T).size = 1 ∨ (ti T).agg = true)) : Impl P o ρ (.ret (.tuple [zeroA (ti T), .bool false])) :=
  impl_ret fun φ a w h => by
    have hv := h x (by simp [ho, Op.operands])
    rw [hx] at hv
    simp only [VRel] at hv
    obtain ⟨d, hd, hk⟩ := und_of hti h2
    obtain ⟨z, hz0, _, hz2⟩ := run_zero hti h2 w
    have hzr : VRel φ (zeroA (ti T)) z := by
      rcases hz2 φ hz.1 with h | ⟨ha, hb⟩
      · exact h
      · rcases hz.2 with h' | h'
        · exact absurd h' ha
        · rw [hb] at h'; cases h'
    have hnot : ∀ ms, d ≠ .interface ms := by
      intro ms e
      subst e
      unfold KdRel at hk
      split at hk <;> first | (exact absurd (by assumption) h1) | simp at hk
    refine ⟨.tuple #[z, .bool false], ?_, ?_⟩
    · simp only [execOp, ho, Instr.typeAssert, Sem.run_bind, run_underlying hd, Result.andThen_ok, hv]
      split <;> first | (rename_i e _; exact absurd rfl (hnot _)) | skip
      all_goals first | (exfalso; rename_i hn _; simp at hn; done) | skip
      all_goals simp_all
    · simp only [VRel, VRels]
      exact ⟨[z, .bool false], rfl, z, _, rfl, hzr, _, _, rfl, by simp [VRel], rfl⟩
end Go.Proofs.YtdgipcjigbagfaaGreat.AB
