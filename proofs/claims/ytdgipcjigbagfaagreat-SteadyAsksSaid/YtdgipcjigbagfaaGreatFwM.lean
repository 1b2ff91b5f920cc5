/- Clear, calls, and all operations together. -/
import Derived.Test.YtdgipcjigbagfaaGreatFwL
namespace Go.Proofs.YtdgipcjigbagfaaGreat.AB
set_option linter.unusedSimpArgs false
set_option linter.unusedVariables false
variable {P : Program} {ti : Nat → TyI} {o : Oper} {ρ : Operand → AVal}

theorem fillRows_length {α : Type} (x : α) : ∀ (n : Nat) (l : List α), (fillRows x n l).length = l.length
  | 0, _ => rfl
  | _ + 1, [] => rfl
  | n + 1, _ :: l => by simp [fillRows, fillRows_length x n l]

theorem fillRows_get {α : Type} (x : α) : ∀ (n : Nat) (l : List α) (i : Nat), (fillRows x n l)[i]? = if i < n ∧ i < l.length then some x else l[i]?
  | 0, l, i => by simp [fillRows]
  | n + 1, [], i => by simp [fillRows]
  | n + 1, y :: l, 0 => by simp [fillRows]
  | n + 1, y :: l, i + 1 => by simp [fillRows, fillRows_get x n l i]

theorem zeroCells_get (z : Array Value) (n k : Nat) (hk : k < n * z.size) : (Builtin.zeroCells z n).toList[k]? = z[k % z.size]? := by
  have hz : 0 < z.size := by
    rcases Nat.eq_zero_or_pos z.size with h | h
    · rw [h] at hk; simp at hk
    · exact h
  simp [Builtin.zeroCells, hk, Nat.mod_lt _ hz]

theorem impl_clear (hti : TyOk P ti) {x : Operand} {T : TypeId} {sz b lo len : Nat} {cap : Option Nat} (ho : o.op = .call { callee := .builtin .clear, args := #[x], argTypes := #[T] }) (hk : (ti T).kd = .slice)
    (hkn : (ti (ti T).elem).kd ≠ .other) (hsz : sz = (ti (ti T).elem).size) (hz : (ti (ti T).elem).zero.length = sz) (hsc : scals (ti (ti T).elem).zero = true) (hx : ρ x = .slice sz b lo len cap) :
    Impl P o ρ (.fill b lo len (ti (ti T).elem).zero) := by
  intro B φ ψ G w a n v' G' rd wr nn hρ g hfr hm hp next Q hkk
  cases hp
  case fillS t c l fm _ _ _ =>
    have hG : G b = .fam t c l fm := by assumption
    have hzn : (ti (ti T).elem).zero = [.nili] := by assumption
    have hle : lo + len ≤ l.length := by assumption
    have h1 := hρ x (by simp [ho, Op.operands, Call.operands])
    rw [hx] at h1
    obtain ⟨hz1, L, ad, cp, news, hR⟩ := fam_read g.s hG h1
    have hw : (G b).wr = true := by rw [hG]; rfl
    have hv := hR.val
    have hpost : VRel φ (.tuple []) (.tuple #[]) := by simp [VRel, VRels]
    by_cases h0 : len = 0
    · subst h0
      have hexec : (execOp a.eval o).run P w = .ok (.value (.tuple #[])) w := by
        simp only [execOp, ho, resolve, Sem.run_bind, Sem.run_pure, Result.andThen_ok, invoke, builtin, Builtin.clear_]
        cases ad <;> simp [hv, run_underlying (und_slice hti hk)]
      unfold Oper.wp
      rw [hexec]
      refine hkk φ ψ w _ ?_ (Ext.refl φ) (fun b hb => .inl hb) hpost
      have e : upd G b (.fam t c (l.take lo ++ fillRows none 0 (l.drop lo)) fm) = G := by
        funext b'
        by_cases e : b' = b
        · subst e; simp [upd, fillRows, hG]
        · simp [upd, e]
      rw [e]; exact g
    · have hlec := hR.le
      have hlim := hR.lim
      have had := hR.adr (by omega)
      subst had
      have hL0 : L.lim ≠ 0 := by omega
      obtain ⟨arr, e, fz, hh, hsz', hfz, _⟩ := hR.arr hL0
      obtain ⟨z, hz0, hzr, _⟩ := run_zero hti hkn w
      have hzs : z.cells.size = 1 := by have := (hzr φ).length; rw [hzn] at this; simpa using this
      have hz1' : z.cells[0]? = some .nilIface := by
        obtain ⟨u, hu, hur⟩ := (hzr φ).get 0 .nili (by rw [hzn]; rfl)
        simp only [VRel] at hur; subst hur; simpa using hu
      have hall : ∀ k, k < len → (Builtin.zeroCells z.cells len).toList[k]? = some .nilIface := by
        intro k hk'
        rw [zeroCells_get _ _ _ (by rw [hzs]; omega), hzs, Nat.mod_one, hz1']
      have hone : ∀ u ∈ (Builtin.zeroCells z.cells len).toList, u.oneCell' = true := by
        intro u hu
        obtain ⟨k, hk'⟩ := List.getElem?_of_mem hu
        have hlt : k < len := by
          have := (List.getElem?_eq_some_iff.mp hk').1
          simpa [zeroCells_size, hzs] using this
        rw [hall k hlt] at hk'; injection hk' with hk'; subst hk'; rfl
      have hlenz : (Builtin.zeroCells z.cells len).toList.length = len := by simp [zeroCells_size, hzs]
      obtain ⟨w', hrun, ⟨hsz'', hsd⟩, hot, arr', hh', hs', hx'⟩ := run_storeCells (P := P) (Builtin.zeroCells z.cells len).toList 0 w L.blk (L.off + lo) arr e fz hh hfz (by rw [hlenz]; omega) hone
      have hexec : (execOp a.eval o).run P w = .ok (.value (.tuple #[])) w' := by
        simp only [execOp, ho, resolve, Sem.run_bind, Sem.run_pure, Result.andThen_ok, invoke, builtin, Builtin.clear_]
        obtain ⟨len', rfl⟩ : ∃ k, len = k + 1 := ⟨len - 1, by omega⟩
        simp [hv, run_underlying (und_slice hti hk), hz0]
        rw [hrun]; simp
      unfold Oper.wp
      rw [hexec]
      have hlen : (l.take lo ++ fillRows none len (l.drop lo)).length = l.length := by
        simp [fillRows_length]; omega
      refine hkk φ ψ w' _ (g.write hw rfl (Nat.le_of_eq hsz''.symm) hsd (fun c' _ hc' => hot c' (fun ec => hc' (by rw [hR.own, ec]; simp [ownOf, hL0]))) ?_) (Ext.refl φ) (fun b hb => .inl hb) hpost
      obtain ⟨L', hL', hs1, hc1, _, hcl, _, _⟩ := g.s.rel b (wr_live hw)
      rw [hR.hL] at hL'; injection hL' with hL'; subst hL'
      rw [hG] at hs1 hc1 hcl
      simp only [Blk.size, Blk.cnt] at hs1 hc1 hcl
      rw [hR.hL, hR.own]
      refine fam_brel hR.size (by rw [hlen, hc1]) (by rw [hlen]; exact hcl) hL0 hh' (by rw [hs']; exact hsz') hfz hR.fam.len hR.fam.nodup (fun i xx hxi => ?_) (FamIs.cellsSet hR.fam hL0 hh' hot (l' := []) (fun i x hx => by simp at hx)).rows
      rw [hx', hlenz, Nat.add_zero]
      rcases Nat.lt_or_ge i lo with hil | hil
      · rw [if_neg (by omega)]
        rw [List.getElem?_append_left (by simp; omega), List.getElem?_take] at hxi
        simp only [hil, if_true] at hxi
        exact hR.fam.cells hL0 arr e fz hh i xx hxi
      · rw [List.getElem?_append_right (by simp; omega)] at hxi
        simp only [List.length_take] at hxi
        rw [Nat.min_eq_left (by omega), fillRows_get] at hxi
        rcases Nat.lt_or_ge i (lo + len) with hil2 | hil2
        · rw [if_pos ⟨by omega, by simp; omega⟩] at hxi
          injection hxi with hxi; subst hxi
          rw [if_pos (by omega), show L.off + i - (L.off + lo) = i - lo by omega, hall _ (by omega)]
          exact ⟨_, rfl, rfl⟩
        · rw [if_neg (by intro h; omega)] at hxi
          rw [List.getElem?_drop, show lo + (i - lo) = i by omega] at hxi
          rw [if_neg (by omega)]
          exact hR.fam.cells hL0 arr e fz hh i xx hxi
  rename_i c l y hle henc hG
  have h1 := hρ x (by simp [ho, Op.operands, Call.operands])
  rw [hx] at h1
  simp only [VRel] at h1
  obtain ⟨L, ad, cp, hL, hv, hLs, hcnt, hlc, hlim, had, _⟩ := h1
  have hw : (G b).wr = true := by rw [hG]; rfl
  obtain ⟨L', hL', hs1, hc1, hr⟩ := (g.s.rel b).parts (wr_live hw) (by rw [hG]; rfl)
  rw [hL] at hL'; injection hL' with hL'; subst hL'
  have hfm0 : L.fam = [] := by
    obtain ⟨L2, hL2, _, _, _, _, _, hf2⟩ := g.s.rel b (wr_live hw)
    rw [hL] at hL2; injection hL2 with hL2; subst hL2
    exact hf2.not (by rw [hG]; rfl)
  rw [hG] at hs1 hc1 hr
  simp only [Blk.size, Blk.cnt] at hs1 hc1 hr
  have hpost : VRel φ (.tuple []) (.tuple #[]) := by simp [VRel, VRels]
  by_cases h0 : len = 0
  · subst h0
    have hexec : (execOp a.eval o).run P w = .ok (.value (.tuple #[])) w := by
      simp only [execOp, ho, resolve, Sem.run_bind, Sem.run_pure, Result.andThen_ok, invoke, builtin, Builtin.clear_]
      cases ad <;> simp [hv, run_underlying (und_slice hti hk)]
    unfold Oper.wp
    rw [hexec]
    refine hkk φ ψ w _ ?_ (Ext.refl φ) (fun b hb => .inl hb) hpost
    have e : upd G b (.rows c (l.take lo ++ fillRows y 0 (l.drop lo)) false) = G := by
      funext b'
      by_cases e : b' = b
      · subst e; simp [upd, fillRows, hG]
      · simp [upd, e]
    rw [e]; exact g
  · rcases hr with ⟨h0', _, _⟩ | ⟨hψ, hcl, arr, e, fz, hh, hlim', hfz, hcell⟩
    · omega
    · have had' : ad = some ⟨L.blk, L.off + lo * L.size, none⟩ := by
        rcases had with h | h
        · omega
        · exact h
      subst had'
      obtain ⟨z, hz0, hzr, _⟩ := run_zero hti hkn w
      have hzs : z.cells.size = sz := by have := (hzr φ).length; rw [hz] at this; simpa using this
      have hLsz : L.size = sz := hLs
      have hone : ∀ u ∈ (Builtin.zeroCells z.cells len).toList, u.oneCell' = true := by
        intro u hu
        obtain ⟨k, hk'⟩ := List.getElem?_of_mem hu
        have hlt : k < len * z.cells.size := by
          have := (List.getElem?_eq_some_iff.mp hk').1
          simpa [zeroCells_size] using this
        rw [zeroCells_get _ _ _ hlt] at hk'
        exact scals_one hsc (hzr φ) u (by simpa using Array.mem_of_getElem? hk')
      have hlenz : (Builtin.zeroCells z.cells len).toList.length = len * sz := by simp [zeroCells_size, hzs]
      have hb : L.off + lo * L.size + len * sz ≤ arr.size := by
        have : (lo + len) * L.size ≤ L.lim * L.size := Nat.mul_le_mul_right _ (by omega)
        rw [Nat.add_mul] at this
        rw [hLsz] at this hlim' ⊢; omega
      obtain ⟨w', hrun, ⟨hsz', hsd⟩, hot, arr', hh', hs', hx'⟩ := run_storeCells (P := P) (Builtin.zeroCells z.cells len).toList 0 w L.blk (L.off + lo * L.size) arr e fz hh (hfz rfl) (by rw [hlenz]; simpa using hb) hone
      have hexec : (execOp a.eval o).run P w = .ok (.value (.tuple #[])) w' := by
        simp only [execOp, ho, resolve, Sem.run_bind, Sem.run_pure, Result.andThen_ok, invoke, builtin, Builtin.clear_]
        obtain ⟨len', rfl⟩ : ∃ k, len = k + 1 := ⟨len - 1, by omega⟩
        simp [hv, run_underlying (und_slice hti hk), hz0]
        rw [hrun]; simp
      unfold Oper.wp
      rw [hexec]
      refine hkk φ ψ w' _ (g.write hw rfl (Nat.le_of_eq hsz'.symm) hsd (fun c' _ hc' => hot c' (fun ec => hc' (by rw [hψ]; simp [ec]))) ?_) (Ext.refl φ) (fun b hb => .inl hb) hpost
      have hlen : (l.take lo ++ fillRows y len (l.drop lo)).length = l.length := by
        simp [fillRows_length]; omega
      refine BRel.of hL hs1 (by rw [hc1]; simp only [Blk.cnt]; rw [hlen]) hψ (by omega) ⟨by simp only [Blk.cnt]; rw [hlen]; exact hcl, arr', e, fz, hh', by rw [hs']; exact hlim', fun _ => hfz rfl, fun i cs hi j q hq => ?_⟩ hfm0 rfl
      simp only [Blk.rowAt] at hi
      cases hxi : (l.take lo ++ fillRows y len (l.drop lo))[i]? with
      | none => simp [hxi] at hi
      | some xx =>
        simp [hxi] at hi; subst hi
        have hj : j < c.size := by rw [← Cd.enc_length c xx]; exact (List.getElem?_eq_some_iff.mp hq).1
        rw [hx', hlenz, Nat.add_zero]
        have hcs : c.size = sz := by rw [← hs1]; exact hLsz
        rcases Nat.lt_or_ge i lo with hil | hil
        · have hin := row_in hil hj
          rw [if_neg (by intro h; rw [hLsz, ← hcs] at h; omega)]
          rw [List.getElem?_append_left (by simp; omega), List.getElem?_take] at hxi
          simp only [hil, if_true] at hxi
          exact hcell i (c.enc xx) (by simp [Blk.rowAt, hxi]) j q hq
        · rw [List.getElem?_append_right (by simp; omega)] at hxi
          simp only [List.length_take] at hxi
          rw [Nat.min_eq_left (by omega), fillRows_get] at hxi
          rcases Nat.lt_or_ge i (lo + len) with hil2 | hil2
          · rw [if_pos ⟨by omega, by simp; omega⟩] at hxi
            injection hxi with hxi; subst hxi
            have e2 : i * c.size = lo * c.size + (i - lo) * c.size := by rw [← Nat.add_mul]; congr 1; omega
            have hin := row_in (show i - lo < len by omega) hj
            rw [if_pos (by rw [hLsz, ← hcs]; omega)]
            have hk3 : (L.off + i * L.size + j - (L.off + lo * L.size)) = (i - lo) * c.size + j := by rw [hLsz, ← hcs]; omega
            rw [hk3, zeroCells_get _ _ _ (by rw [hzs, ← hcs]; exact hin), hzs, ← hcs]
            rw [show ((i - lo) * c.size + j) % c.size = j by rw [Nat.mul_comm, Nat.mul_add_mod]; exact Nat.mod_eq_of_lt hj]
            rw [henc] at hq
            obtain ⟨u, hu, hur⟩ := (hzr φ).get j q hq
            exact ⟨u, by simpa using hu, hur⟩
          · rw [if_neg (by intro h; omega)] at hxi
            rw [List.getElem?_drop, show lo + (i - lo) = i by omega] at hxi
            have e2 : i * c.size = (lo + len) * c.size + (i - (lo + len)) * c.size := by rw [← Nat.add_mul]; congr 1; omega
            have e3 : (lo + len) * c.size = lo * c.size + len * c.size := Nat.add_mul _ _ _
            rw [if_neg (by intro h; rw [hLsz, ← hcs] at h; omega)]
            exact hcell i (c.enc xx) (by simp [Blk.rowAt, hxi]) j q hq

theorem impl_clear_nil (hti : TyOk P ti) {x : Operand} {T : TypeId} (ho : o.op = .call { callee := .builtin .clear, args := #[x], argTypes := #[T] }) (hk : (ti T).kd = .slice) (hx : ρ x = .nils) :
    Impl P o ρ (.ret (.tuple [])) :=
  impl_builtin ho fun φ a w h => by
    have h1 := h x (by simp)
    rw [hx] at h1; simp only [VRel] at h1
    exact ⟨.tuple #[], by simp [builtin, Builtin.clear_, h1, run_underlying (und_slice hti hk)], by simp [VRel, VRels]⟩

theorem impl_append_none (hti : TyOk P ti) {s x : Operand} {T : TypeId} (ho : o.op = .call { callee := .builtin .append, args := #[s, x], argTypes := #[T, T] }) (hk : (ti T).kd = .slice) (hkn : (ti (ti T).elem).kd ≠ .other) (hx : ρ x = .nils)
    (hs : ρ s = .nils ∨ ∃ sz b lo len cap, ρ s = .slice sz b lo len cap) : Impl P o ρ (.ret (ρ s)) :=
  impl_builtin ho fun φ a w h => by
    have h1 := h s (by simp)
    have h2 := h x (by simp)
    rw [hx] at h2; simp only [VRel] at h2
    have : ∃ ad n c, a.eval s = .slice ad n c ∧ n ≤ c := by
      rcases hs with hs | ⟨sz, b, lo, len, cap, hs⟩ <;> rw [hs] at h1 <;> simp only [VRel] at h1
      · exact ⟨_, _, _, h1, Nat.le_refl _⟩
      · obtain ⟨L, ad, c, _, hv, _, _, hlc, _⟩ := h1; exact ⟨_, _, _, hv, hlc⟩
    obtain ⟨ad, n, c, hv, hnc⟩ := this
    refine ⟨a.eval s, ?_, h1⟩
    obtain ⟨i, d, z, t⟩ := hti (ti T).elem hkn
    simp only [builtin, Sem.run_bind]
    have : (Builtin.append_ #[T, T] o.type #[.slice ad n c, .slice none 0 0]).run P w = .ok (.slice ad n c) w := by
      cases ad <;> simp [Builtin.append_, run_underlying (und_slice hti hk), sizeOf, typeInfo, t.info, Builtin.lenOf, hnc, Builtin.firstCells, storeCells]
    rw [show (#[s, x].map a.eval) = #[a.eval s, a.eval x] by simp, hv, h2, this]
    simp

/-! calls -/
theorem idx_ge : ∀ (b : Nat) (l : List Nat) (k j : Nat), idx b l k = some j → k ≤ j ∧ l[j - k]? = some b
  | b, [], k, j, h => by simp [idx] at h
  | b, x :: l, k, j, h => by
    simp only [idx] at h
    cases hx : Nat.beq x b with
    | true =>
      simp only [hx, cond_true] at h
      injection h with h; subst h
      have := Nat.eq_of_beq_eq_true hx
      subst this; simp
    | false =>
      simp only [hx, cond_false] at h
      obtain ⟨h1, h2⟩ := idx_ge b l (k + 1) j h
      refine ⟨by omega, ?_⟩
      rw [show j - k = (j - (k + 1)) + 1 by omega]; simpa using h2

theorem idx_get {b j : Nat} {l : List Nat} (h : idx b l 0 = some j) : l[j]? = some b := by simpa using (idx_ge b l 0 j h).2

theorem idx_none : ∀ (b : Nat) (l : List Nat) (k : Nat), idx b l k = none → b ∉ l
  | b, [], k, _ => by simp
  | b, x :: l, k, h => by
    simp only [idx] at h
    cases hx : Nat.beq x b with
    | true => simp [hx] at h
    | false =>
      simp only [hx, cond_false] at h
      have := idx_none b l (k + 1) h
      have hne : x ≠ b := by intro e; subst e; rw [Nat.beq_refl] at hx; cases hx
      simp [this, Ne.symm hne]

theorem idx_mem {b : Nat} {l : List Nat} (h : b ∈ l) : ∃ j, idx b l 0 = some j ∧ j < l.length := by
  cases hi : idx b l 0 with
  | none => exact absurd h (idx_none b l 0 hi)
  | some j => exact ⟨j, rfl, (List.getElem?_eq_some_iff.mp (idx_get hi)).1⟩

theorem getB_map (f : Nat → Blk) : ∀ (l : List Nat) (j : Nat), getB (l.map f) j = match l[j]? with | some b => f b | none => .dead
  | [], j => by simp [getB]
  | x :: l, 0 => by simp [getB]
  | x :: l, j + 1 => by simp [getB, getB_map f l j]

theorem nodup_idx {ids : List Nat} (h : ids.Nodup) {j b : Nat} (hj : ids[j]? = some b) : idx b ids 0 = some j := by
  obtain ⟨j', hj', _⟩ := idx_mem (List.mem_of_getElem? hj)
  rw [hj']
  have h1 := idx_get hj'
  congr 1
  obtain ⟨l1, e1⟩ := List.getElem?_eq_some_iff.mp hj
  obtain ⟨l2, e2⟩ := List.getElem?_eq_some_iff.mp h1
  have hp := List.pairwise_iff_getElem.mp h
  rcases Nat.lt_trichotomy j' j with hlt | he | hgt
  · exact absurd (e2.trans e1.symm) (hp j' j l2 l1 hlt)
  · exact he
  · exact absurd (e1.trans e2.symm) (hp j j' l1 l2 hgt)

/-- the part of memory that a call sees -/
theorem SRel.sub {φ : Map} {ψ : Nat → List Nat} {G : Nat → Blk} {w : World} (h : SRel φ ψ G w) {ids : List Nat} (hn : ids.Nodup) :
    SRel (fun j => (ids[j]?).bind φ) (fun j => match ids[j]? with | some b => ψ b | none => []) (getB (ids.map fun b => renB (fun x => idx x ids 0) (G b))) w := by
  have hren : ∀ b c L, idx b ids 0 = some c → φ b = some L → (fun j => (ids[j]?).bind φ) c = some L := by
    intro b c L hc hL
    simp [idx_get hc, hL]
  refine ⟨fun j => ?_, fun j j' hne hl hl' hw c hc hc' => ?_⟩
  · rw [getB_map]
    cases hj : ids[j]? with
    | none => intro hl; simp [Blk.live] at hl
    | some b =>
      simp only [Option.bind_some]
      exact BRel.ren hren (h.rel b)
  · rw [getB_map] at hl hw
    rw [getB_map] at hl' hw
    cases hj : ids[j]? with
    | none => simp [hj, Blk.live] at hl
    | some b =>
      cases hj' : ids[j']? with
      | none => simp [hj', Blk.live] at hl'
      | some b' =>
        simp only [hj, hj', renB_live, renB_wr] at hl hl' hw hc hc'
        have hbb : b ≠ b' := by
          intro e; subst e
          have := nodup_idx hn hj; rw [nodup_idx hn hj'] at this
          exact hne (Option.some.inj this).symm
        exact h.disj b b' hbb hl hl' hw c hc hc'

theorem impl_call {c : Call} {f : Operand} {g : Nat} {caps : List AVal} (ho : o.op = .call c) (hc : c.callee = .value f) (hf : ρ f = .func g caps) : Impl P o ρ (.call g (c.args.toList.map ρ ++ caps)) := by
  intro B φ ψ G w a n v' G' rd wr nn hρ gi hfr hm hp next Q hkk
  cases hp with
  | call _ _ _ _ _ v σ' W hnd hlt hcall hac hW hkeep =>
  obtain ⟨fn, code, hfn, hbody, hname⟩ := hcall
  have hops : ∀ x ∈ c.operands.toList, VRel φ (ρ x) (a.eval x) := fun x hx => hρ x (by simpa [ho, Op.operands] using hx)
  have hfv := hops f (by simp [Call.operands, hc])
  rw [hf] at hfv
  simp only [VRel] at hfv
  obtain ⟨us, hfe, hus⟩ := hfv
  have hargs : VRels φ (c.args.toList.map ρ) (c.args.toList.map a.eval) := map_rel fun y hy => hops y (by simp [Call.operands, hc]; exact .inr (by simpa using hy))
  have hexec : (execOp a.eval o).run P w = .ok (.enter g (c.args.map a.eval ++ us.toArray)) w := by
    have hne : fn.body.isNone = false := by rw [hbody]; rfl
    simp only [execOp, ho, resolve, hc, hfe, Deferred.ofValue, Sem.run_bind, Sem.run_pure, Result.andThen_ok, invoke, callFunc, run_program, hfn, hname, hne, Bool.false_eq_true, if_false]
    simp
  have hren : ∀ b c L, idx b rd 0 = some c → φ b = some L → (fun j => (rd[j]?).bind φ) c = some L := by
    intro b c L hc hL
    simp [idx_get hc, hL]
  obtain ⟨hlen, _, hcalls⟩ := hac
  simp only [List.length_map] at hlen hcalls
  have hsub := gi.s.sub hnd
  have key := hcalls _ _ w (c.args.toList.map a.eval ++ us) hsub (fun j hj => by
      cases h : rd[j]? with
      | none => rw [h] at hj; simp at hj
      | some b => exact (List.getElem?_eq_some_iff.mp h).1) (VRels.ren hren _ (hargs.append hus))
  unfold Oper.wp
  rw [hexec]
  have harr : (c.args.toList.map a.eval ++ us).toArray = c.args.map a.eval ++ us.toArray := by
    apply Array.ext'; simp
  rw [harr] at key
  refine Calls.mono key fun e w' he => ?_
  obtain ⟨φs, ψs, cv, rfl, hcv, gs, hdom⟩ := he
  -- back into the whole
  let k := σ'.length - rd.length
  let φ' : Map := fun b => if n ≤ b ∧ b < n + k then φs (b - n + rd.length) else φ b
  let ψ' : Nat → List Nat := fun b => match idx b rd 0 with
    | some j => ψs j
    | none => if n ≤ b ∧ b < n + k then ψs (b - n + rd.length) else ψ b
  have hmlen : (baseOf (rd.map fun b => renB (fun x => idx x rd 0) (G b)) (fun j => (rd[j]?).bind φ) (fun j => match rd[j]? with | some b => ψ b | none => []) w).m = rd.length := by simp [baseOf]
  have keep : ∀ j b, rd[j]? = some b → φs j = φ b := by
    intro j b hj
    have hjl : j < rd.length := (List.getElem?_eq_some_iff.mp hj).1
    have := gs.keep j (by rw [hmlen]; exact hjl)
    rw [this]; simp [baseOf, hj]
  have hold : ∀ b, b ∈ rd → ¬ (n ≤ b ∧ b < n + k) := by
    intro b hb h; have := hlt b hb; omega
  have hback : ∀ j b L, backId rd n j = some b → φs j = some L → φ' b = some L := by
    intro j b L hb hL
    unfold backId at hb
    split at hb
    · rename_i b0 hj
      injection hb with hb; subst hb
      simp only [φ']
      rw [if_neg (hold b0 (List.mem_of_getElem? hj)), ← keep j b0 hj, hL]
    · rename_i hj
      injection hb with hb; subst hb
      have hjl : rd.length ≤ j := by
        rcases Nat.lt_or_ge j rd.length with h | h
        · rw [List.getElem?_eq_getElem h] at hj; cases hj
        · exact h
      have hjd : j < σ'.length := hdom j (by rw [hL]; simp)
      simp only [φ', k]
      rw [if_pos (by omega), show n + (j - rd.length) - n + rd.length = j by omega, hL]
  have hext : Ext φ φ' := by
    intro b L hb
    simp only [φ']
    split
    · rename_i h; rw [(hfr b h.1 h.2).1] at hb; cases hb
    · exact hb
  have hval := VRel.ren hback v hcv
  have hW : ∀ x, (baseOf (rd.map fun b => renB (fun x => idx x rd 0) (G b)) (fun j => (rd[j]?).bind φ) (fun j => match rd[j]? with | some b => ψ b | none => []) w).W0 x → ∃ b ∈ rd, (G b).wr = true ∧ x ∈ ψ b := by
    intro x hx
    simp only [baseOf, List.length_map] at hx
    obtain ⟨j, hj, hwr, hxj⟩ := hx
    rw [getB_map] at hwr
    have hjb := List.getElem?_eq_getElem hj
    simp only [hjb, renB_wr] at hwr hxj
    exact ⟨rd[j], List.getElem_mem hj, hwr, hxj⟩
  refine hkk φ' ψ' w' cv ?_ hext ?_ hval
  · refine gi.step (X := rd) (N := (List.range k).map (n + ·)) ⟨hext, fun b hb => ?_, fun b hb hb' => ?_, fun b hb => ?_, gs.grow, fun x hx hx' => ?_, fun b hb => ?_, fun b hb hwr x hx => ?_, fun b hb hwr => ?_, fun b hb hro => ?_, fun b b' hne hb hb' hl hl' hw x hx hx' => ?_, fun b hb hro => ?_, gs.out⟩ ?_
    · simp only [φ']
      rw [if_neg]
      intro h
      exact hb (by simp only [List.mem_map, List.mem_range]; exact ⟨b - n, by omega, by omega⟩)
    · have hnew : ¬ (n ≤ b ∧ b < n + k) := fun h => hb' (by simp only [List.mem_map, List.mem_range]; exact ⟨b - n, by omega, by omega⟩)
      cases hi : idx b rd 0 with
      | some j => exact absurd (List.mem_of_getElem? (idx_get hi)) hb
      | none => simp only [ψ', callG, hi]; simp only [k] at hnew; simp [hnew, k]
    · simp only [List.mem_map, List.mem_range] at hb
      obtain ⟨j, hj, rfl⟩ := hb
      exact (hfr (n + j) (by omega) (by simp only [k] at hj; omega)).2
    · refine gs.frame x hx fun h => ?_
      obtain ⟨b, hb, hwr, hxb⟩ := hW x h
      exact hx' b hb hwr hxb
    · cases hi : idx b rd 0 with
      | some j =>
        have hbm := List.mem_of_getElem? (idx_get hi)
        have hφ' : φ' b = φs j := by simp only [φ']; rw [if_neg (hold b hbm), keep j b (idx_get hi)]
        simp only [ψ', callG, hi, hφ']
        exact BRel.ren hback (gs.s.rel j)
      | none =>
        have hb' : b ∈ (List.range k).map (n + ·) := by
          rcases hb with h | h
          · exact absurd h (idx_none b rd 0 hi)
          · exact h
        simp only [List.mem_map, List.mem_range] at hb'
        obtain ⟨j, hj, rfl⟩ := hb'
        have hc : n ≤ n + j ∧ n + j < n + k := ⟨by omega, by omega⟩
        have hφ' : φ' (n + j) = φs (n + j - n + rd.length) := by simp only [φ']; rw [if_pos hc]
        simp only [ψ', callG, hi, hφ', hc, and_self, if_true]
        simp only [k] at hc
        simp only [hc, and_self, if_true]
        exact BRel.ren hback (gs.s.rel _)
    · have : ∃ j, (getB σ' j).wr = true ∧ x ∈ ψs j := by
        cases hi : idx b rd 0 with
        | some j => simp only [ψ', callG, hi, renB_wr] at hwr hx; exact ⟨j, hwr, hx⟩
        | none =>
          have hb' : b ∈ (List.range k).map (n + ·) := by
            rcases hb with h | h
            · exact absurd h (idx_none b rd 0 hi)
            · exact h
          simp only [List.mem_map, List.mem_range] at hb'
          obtain ⟨j, hj, rfl⟩ := hb'
          have hc : n ≤ n + j ∧ n + j < n + k := ⟨by omega, by omega⟩
          have hc' : n ≤ n + j ∧ n + j < n + (σ'.length - rd.length) := hc
          simp only [ψ', hi, hc, and_self, if_true] at hx
          simp only [callG, hi, hc', and_self, if_true, renB_wr] at hwr
          exact ⟨_, hwr, hx⟩
      obtain ⟨j, hwr', hx'⟩ := this
      rcases gs.own j hwr' x hx' with h | h
      · obtain ⟨b0, hb0, hw0, hx0⟩ := hW x h
        exact .inr ⟨b0, hb0, hw0, hx0⟩
      · exact .inl h
    · obtain ⟨j, hj, hjl⟩ := idx_mem hb
      simp only [callG, hj, renB_wr] at hwr
      cases hl : (G b).live with
      | false =>
        have := gs.dd j (by rw [hmlen]; exact hjl) (by simp only [Base.d0, baseOf]; rw [getB_map, idx_get hj]; simp [renB_live, hl])
        rw [wr_live hwr] at this; cases this
      | true =>
        rcases live_wr_ro hl with h | h
        · exact h
        · have := gs.ro' j (by rw [hmlen]; exact hjl) (by simp only [Base.ro0, baseOf]; rw [getB_map, idx_get hj]; simp [renB_ro, h])
          rw [this] at hwr; cases hwr
    · cases hi : idx b rd 0 with
      | some j =>
        simp only [callG, hi, renB_ro] at hro
        obtain ⟨h1, h2⟩ := gs.ro j hro
        simp only [Base.ro0, baseOf] at h2
        rw [getB_map, idx_get hi] at h2
        simp only [renB_ro] at h2
        have hbm := List.mem_of_getElem? (idx_get hi)
        refine ⟨hbm, fun h => ?_, h2⟩
        simp only [List.mem_map, List.mem_range] at h
        obtain ⟨q, _, rfl⟩ := h
        have := hlt _ hbm; omega
      | none =>
        exfalso
        have hb' : b ∈ (List.range k).map (n + ·) := by
          rcases hb with h | h
          · exact absurd h (idx_none b rd 0 hi)
          · exact h
        simp only [List.mem_map, List.mem_range] at hb'
        obtain ⟨j, hj, rfl⟩ := hb'
        have hc' : n ≤ n + j ∧ n + j < n + (σ'.length - rd.length) := ⟨by omega, by simp only [k] at hj; omega⟩
        simp only [callG, hi, hc', and_self, if_true, renB_ro] at hro
        have := (gs.ro _ hro).1
        rw [hmlen] at this; omega
    · -- two of them
      have place : ∀ b, (b ∈ rd ∨ b ∈ (List.range k).map (n + ·)) → ∃ j, ψ' b = ψs j ∧ callG G rd n σ' b = renB (backId rd n) (getB σ' j) ∧
            ((rd[j]? = some b) ∨ (rd.length ≤ j ∧ b = n + (j - rd.length))) := by
        intro b hb
        cases hi : idx b rd 0 with
        | some j => exact ⟨j, by simp only [ψ', hi], by simp only [callG, hi], .inl (idx_get hi)⟩
        | none =>
          have hb' : b ∈ (List.range k).map (n + ·) := by
            rcases hb with h | h
            · exact absurd h (idx_none b rd 0 hi)
            · exact h
          simp only [List.mem_map, List.mem_range] at hb'
          obtain ⟨j, hj, rfl⟩ := hb'
          have hc : n ≤ n + j ∧ n + j < n + k := ⟨by omega, by omega⟩
          have hc' : n ≤ n + j ∧ n + j < n + (σ'.length - rd.length) := hc
          exact ⟨n + j - n + rd.length, by simp only [ψ', hi, hc, and_self, if_true], by simp only [callG, hi, hc', and_self, if_true], .inr ⟨by omega, by omega⟩⟩
      obtain ⟨j, h1, h2, h3⟩ := place b hb
      obtain ⟨j', h1', h2', h3'⟩ := place b' hb'
      rw [h2] at hl hw
      rw [h2'] at hl' hw
      simp only [renB_live, renB_wr] at hl hl' hw
      rw [h1] at hx; rw [h1'] at hx'
      refine gs.s.disj j j' (fun e => ?_) hl hl' hw x hx hx'
      subst e
      rcases h3 with h3 | ⟨h3, h4⟩ <;> rcases h3' with h3' | ⟨h3', h4'⟩
      · rw [h3] at h3'; exact hne (Option.some.inj h3')
      · have := (List.getElem?_eq_some_iff.mp h3).1; omega
      · have := (List.getElem?_eq_some_iff.mp h3').1; omega
      · exact hne (h4.trans h4'.symm)
    · obtain ⟨j, hj, hjl⟩ := idx_mem hb
      have hgb : getB (rd.map fun b => renB (fun x => idx x rd 0) (G b)) j = renB (fun x => idx x rd 0) (G b) := by rw [getB_map, idx_get hj]
      have h1 := gs.rq j (by rw [hmlen]; exact hjl) (by simp only [Base.ro0, baseOf]; rw [hgb, renB_ro]; exact hro)
      simp only [baseOf] at h1
      simp only [callG, hj, h1, hgb]
      cases hG : G b with
      | dead => rw [hG] at hro; cases hro
      | var cs => rw [hG] at hro; cases hro
      | fam t c l f => rw [hG] at hro; cases hro
      | cells cs => rw [hG] at hro; cases hro
      | rows c l ro => rfl
    · intro b hb
      simp only [List.mem_map, List.mem_range] at hb
      obtain ⟨j, _, rfl⟩ := hb
      omega
  · intro b hb
    simp only [φ'] at hb
    split at hb
    · rename_i h; exact .inr ⟨h.1, by simp only [k] at h; omega⟩
    · exact .inl hb

/-! into a family -/
theorem fam_at {φ : Map} {ψ : Nat → List Nat} {G : Nat → Blk} {w : World} (hs : SRel φ ψ G w) {b i j : Nat} {v : Value} {t : Nat} {c : Cd} {l : List (Option Nat)} {fm : List c.El} {x : c.El} (hG : G b = .fam t c l fm) (hx : fm[i]? = some x)
    (hv : VRel φ (.fptr b i j) v) : ∃ L p, φ b = some L ∧ L.fam[i]? = some p ∧ v = .pointer (some ⟨p.1, p.2 + j, none⟩) ∧ RowIs w c x p ∧ FamIs w t c l fm L ∧ ψ b = ownOf L := by
  simp only [VRel] at hv
  obtain ⟨L, p, hL, hp, rfl⟩ := hv
  obtain ⟨L', hL', _, _, hown, _, _, hfam⟩ := hs.rel b (by rw [hG]; rfl)
  rw [hL] at hL'; injection hL' with hL'; subst hL'
  rw [hG] at hfam
  exact ⟨L, p, hL, hp, rfl, hfam.rows i p x hp hx, hfam, hown⟩

theorem impl_loadF (hti : TyOk P ti) {T : TypeId} {x : Operand} {b i j : Nat} (ho : o.op = .load T x) (hx : ρ x = .fptr b i j) (hT : (ti T).kd ≠ .other) : Impl P o ρ (.rdF b i fun cs => partA (ti T) cs j) := by
  intro B φ ψ G w a n v' G' rd wr nn hρ g hfr hm hp next Q hk
  cases hp
  case rdF t c l fm y _ _ _ =>
    have hG : G b = .fam t c l fm := by assumption
    have hy : fm[i]? = some y := by assumption
    have hf : partA (ti T) (c.enc y) j = some v' := by assumption
    have h1 := hρ x (by simp [ho, Op.operands])
    rw [hx] at h1
    obtain ⟨L, p, hL, hp, he, ⟨arr, e, fz, hh, hsz, hfz, hcell⟩, hfam, hown⟩ := fam_at g.s hG hy h1
    obtain ⟨cv, hr, hv⟩ := run_loadVar (φ := fun _ => none) hti hT hh hcell hf
    have hexec : (execOp a.eval o).run P w = .ok (.value cv) w := by
      simp only [execOp, ho, Instr.loadAt, Instr.sureAddr, he, Sem.run_bind, Sem.run_pure, Result.andThen_ok, hr]
    unfold Oper.wp
    rw [hexec]
    exact hk φ ψ w cv g (Ext.refl φ) (fun b hb => .inl hb) (VRel.ext (fun _ _ h => by cases h) _ hv)

theorem impl_storeF (hti : TyOk P ti) {T : TypeId} {x y : Operand} {b i j : Nat} (ho : o.op = .store T x y) (hx : ρ x = .fptr b i j) (hT : (ti T).kd ≠ .other)
    (hlen : (cellsOf (ρ y)).length = (ti T).size) (hsc : scals (cellsOf (ρ y)) = true) (hu : ρ y ≠ .undef) (ht : ∀ vs, ρ y ≠ .tuple vs) : Impl P o ρ (.wrF b i j (cellsOf (ρ y))) := by
  intro B φ ψ G w a n v' G' rd wr nn hρ g hfr hm hp next Q hk
  cases hp
  case wrF t c l fm old z _ _ _ _ =>
    have hG : G b = .fam t c l fm := by assumption
    have hy : fm[i]? = some old := by assumption
    have hfit : j + (cellsOf (ρ y)).length ≤ c.size := by assumption
    have henc : c.enc z = (c.enc old).take j ++ cellsOf (ρ y) ++ (c.enc old).drop (j + (cellsOf (ρ y)).length) := by assumption
    have h1 := hρ x (by simp [ho, Op.operands])
    have h2 := hρ y (by simp [ho, Op.operands])
    rw [hx] at h1
    obtain ⟨L, p, hL, hp, he, ⟨arr, e, fz, hh, hsz, hfz, hcell⟩, hfam, hown⟩ := fam_at g.s hG hy h1
    have hcells := cells_rel h2 hu ht
    have hw : (G b).wr = true := by rw [hG]; rfl
    obtain ⟨w', hrun, ⟨hsz', hsd⟩, hot, arr', hh', hs', hx'⟩ := run_storeCells (P := P) (a.eval y).cells.toList 0 w p.1 (p.2 + j) arr e fz hh hfz (by rw [hcells.length]; omega) (scals_one hsc hcells)
    have hexec : (execOp a.eval o).run P w = .ok .skip w' := by
      have hne : (a.eval y).cells.size = (ti T).size := by have := hcells.length; rw [hlen] at this; simpa using this
      simp only [execOp, ho, Instr.storeAt, Instr.sureAddr, he, storeVar, Sem.run_bind, Sem.run_pure, Result.andThen_ok, run_sizeOf hti hT, hne, ne_eq, not_true_eq_false, if_false, Sem.run_ite, hrun]
    unfold Oper.wp
    rw [hexec]
    have hpm : p.1 ∈ L.fam.map (·.1) := List.mem_map.mpr ⟨p, List.mem_of_getElem? hp, rfl⟩
    refine hk φ ψ w' undef (g.write hw rfl (Nat.le_of_eq hsz'.symm) hsd (fun c' _ hc' => hot c' (fun e => hc' (by rw [hown, e]; exact fam_own hpm))) ?_) (Ext.refl φ) (fun b hb => .inl hb) (by simp [VRel, VRels, undef])
    obtain ⟨L', hL', hs1, hc1, _, hcl, hlies, _⟩ := g.s.rel b (wr_live hw)
    rw [hL] at hL'; injection hL' with hL'; subst hL'
    rw [hG] at hs1 hc1 hcl hlies
    have hlast : (a.eval y).cells.toList.length = (cellsOf (ρ y)).length := hcells.length
    have hnew : RowIs w' c z p := by
      refine ⟨arr', e, fz, hh', by rw [hs']; exact hsz, hfz, fun m q hq => ?_⟩
      rw [hx', hlast, Nat.add_zero]
      have hol : (c.enc old).length = c.size := Cd.enc_length c old
      rw [henc] at hq
      rcases Nat.lt_or_ge m j with hmj | hmj
      · rw [if_neg (by omega)]
        rw [List.append_assoc, List.getElem?_append_left (by simp; omega), List.getElem?_take] at hq
        simp only [hmj, if_true] at hq
        exact hcell m q hq
      · rcases Nat.lt_or_ge m (j + (cellsOf (ρ y)).length) with hml | hml
        · rw [if_pos (by omega), show p.2 + m - (p.2 + j) = m - j by omega]
          rw [List.append_assoc, List.getElem?_append_right (by simp; omega)] at hq
          simp only [List.length_take] at hq
          rw [Nat.min_eq_left (by omega), List.getElem?_append_left (by omega)] at hq
          obtain ⟨u, hu', hur⟩ := hcells.get _ _ hq
          have hmem : q ∈ c.enc z := by rw [henc]; exact List.mem_append.mpr (.inl (List.mem_append.mpr (.inr (List.mem_of_getElem? hq))))
          exact ⟨u, hu', Cd.enc_flat c z q hmem φ _ u hur⟩
        · rw [if_neg (by omega)]
          rw [List.getElem?_append_right (by simp; omega), List.getElem?_drop] at hq
          simp only [List.length_append, List.length_take] at hq
          rw [Nat.min_eq_left (by omega), show j + (cellsOf (ρ y)).length + (m - (j + (cellsOf (ρ y)).length)) = m by omega] at hq
          exact hcell m q hq
    have hinj : ∀ q p', L.fam[q]? = some p' → q ≠ i → p'.1 ≠ p.1 := by
      intro q p' hq hne e
      have hn := fam_nodup hfam.nodup
      have hp1 : (L.fam.map (·.1))[i]? = some p.1 := by rw [List.getElem?_map, hp]; rfl
      have hq1 : (L.fam.map (·.1))[q]? = some p.1 := by rw [List.getElem?_map, hq, ← e]; rfl
      have a1 := nodup_idx hn hp1
      rw [nodup_idx hn hq1] at a1
      exact hne (Option.some.inj a1)
    intro _
    refine ⟨L, hL, hs1, hc1, hown, hcl, fun h0 => ?_, by rw [hfam.len]; simp, hfam.nodup, fun h0 arr2 e2 fz2 hh2 => ?_, fun q p' x' hq hx2 => ?_⟩
    · obtain ⟨hcnt, arr0, e0, fz0, hh0, hlim0, hfz0, _⟩ := hlies h0
      exact ⟨hcnt, arr0, e0, fz0, (hot _ (fun e => fam_apart hfam.nodup h0 hp e.symm)).trans hh0, hlim0, hfz0, fun i cs hi => by simp [Blk.rowAt] at hi⟩
    · exact hfam.cells h0 arr2 e2 fz2 ((hot _ (fun e => fam_apart hfam.nodup h0 hp e.symm)).symm.trans hh2)
    · rw [List.getElem?_set] at hx2
      by_cases hqi : i = q
      · subst hqi
        rw [hp] at hq; injection hq with hq; subst hq
        have : i < fm.length := (List.getElem?_eq_some_iff.mp hy).1
        simp only [if_true, this] at hx2
        injection hx2 with hx2; subst hx2
        exact hnew
      · simp only [hqi, if_false] at hx2
        exact (hfam.rows q p' x' hq hx2).keep (hot _ (hinj q p' hq (fun e => hqi e.symm)))

theorem exec_buildSlice1 (hti : TyOk P ti) {T : TypeId} {parts : Array (Nat × Operand)} (ho : o.op = .buildSlice T 1 parts) (hk : (ti T).kd = .slice) (hkn : (ti (ti T).elem).kd ≠ .other) (hz : (ti (ti T).elem).zero.length = (ti (ti T).elem).size)
    (he1 : (ti (ti T).elem).size = 1) (hord : partsInOrder 0 parts.toList = true) {a : Act} {w : World} {v : Value} (hv : parts.toList.map (fun p => a.eval p.2) = [v]) (hvc : v.cells = #[v]) :
    ∃ out, (execOp a.eval o).run P w = .ok (.value (.slice (some ⟨w.heap.size, 0, none⟩) 1 1)) (w.alloc (.cells out (ti T).elem)) ∧ out.size = 1 ∧ out[0]? = some v := by
  obtain ⟨z, hz0, hzr, _⟩ := run_zero hti hkn w
  have hzs : z.cells.size = (ti (ti T).elem).size := by have := (hzr fun _ => none).length; rw [hz] at this; simpa using this
  have hlen : parts.toList.length = 1 := by have := congrArg List.length hv; simpa using this
  let base : Array Value := (Array.range (1 * (ti (ti T).elem).size)).map (z.cells[· % z.cells.size]!)
  have hbase : base.size = 1 * (ti (ti T).elem).size := by simp [base]
  obtain ⟨out, hfill, hosz, hox⟩ := fill_order (size := (ti (ti T).elem).size) parts.toList (parts.toList.map fun p => a.eval p.2) 0 base hord (by simp) (by rw [hv]; intro u hu; simp at hu; subst hu; rw [hvc, he1]; rfl) (by rw [hbase, hlen]; simp)
  refine ⟨out, ?_, by rw [hosz, hbase, he1], ?_⟩
  · have hzip : (parts.map fun (x : Nat × Operand) => (x.1, a.eval x.2)).toList = (parts.toList.map (·.1)).zip (parts.toList.map fun p => a.eval p.2) := by
      simp [List.zip_map']
    have hbig' : ¬ (1 * (ti (ti T).elem).size > 2 ^ 24) := by rw [he1]; simp
    simp only [execOp, ho, Instr.buildSlice, Sem.run_bind, run_underlying (und_slice hti hk), Result.andThen_ok, run_sizeOf hti hkn, hbig', if_false, Sem.run_pure, hzip]
    rw [if_neg (by rw [he1]; simp)]
    simp only [Sem.run_bind, hz0, Sem.run_pure, Result.andThen_ok, base, hfill] at hfill ⊢
    simp [newRow, hfill]
  · rw [hox, if_pos (by rw [hlen, he1]; simp), hv, he1]
    simp [hvc]

theorem impl_famNew (hti : TyOk P ti) {T : TypeId} {len : Nat} {parts : Array (Nat × Operand)} {t k0 : Nat} {c : Cd} (ho : o.op = .buildSlice T len parts) (hk : (ti T).kd = .slice)
    (hkn : (ti (ti T).elem).kd ≠ .other) (hz : (ti (ti T).elem).zero.length = (ti (ti T).elem).size) (he1 : (ti (ti T).elem).size = 1) (hlen : parts.toList.length = len)
    (hord : partsInOrder 0 parts.toList = true) (hparts : parts.toList.map (fun p => ρ p.2) = [.iface t (.ptr k0 0 0)]) : Impl P o ρ (.famNew t c k0) := by
  have hl1 : len = 1 := by rw [← hlen]; have := congrArg List.length hparts; simpa using this
  subst hl1
  intro B φ ψ G w a n0 v' G' rd wr nn hρ g hfr hm hp next Q hkk
  cases hp
  case famNew cs x _ _ _ =>
    have hG : G k0 = .var cs := by assumption
    have henc : c.enc x = cs := by assumption
    have hlt : k0 < n0 := by assumption
    obtain ⟨hφn, hGn⟩ := hfr n0 (Nat.le_refl _) (by omega)
    have hvals : VRels φ (parts.toList.map fun p => ρ p.2) (parts.toList.map fun p => a.eval p.2) := by
      have := map_rel (φ := φ) (ρ := ρ) (a := a) (l := parts.toList.map (·.2)) (fun y hy => hρ y (by
        simp only [ho, Op.operands]; simpa using hy))
      rw [List.map_map, List.map_map] at this
      exact this
    rw [hparts] at hvals
    simp only [VRels] at hvals
    obtain ⟨v, _, hv, hvr, rfl⟩ := hvals
    simp only [VRel] at hvr
    obtain ⟨u, rfl, L, hL, rfl⟩ := hvr
    have hw : (G k0).wr = true := by rw [hG]; rfl
    obtain ⟨L', hL', hs, hc, hr⟩ := (g.s.rel k0).parts (wr_live hw) (by rw [hG]; rfl)
    rw [hL] at hL'; injection hL' with hL'; subst hL'
    rw [hG] at hs hc hr
    simp only [Blk.size, Blk.cnt] at hs hc hr
    rcases hr with ⟨_, h0, _⟩ | ⟨hψ, hcnt, arr, e, fz, hh, hlim, hfz, hcell⟩
    · omega
    obtain ⟨out, hexec, hosz, hout⟩ := exec_buildSlice1 (w := w) hti ho hk hkn hz he1 hord hv rfl
    simp only [Nat.zero_mul, Nat.add_zero] at hout
    unfold Oper.wp
    rw [hexec]
    have hcl : L.blk < w.heap.size := (g.s.rel k0).own_lt (wr_live hw) _ (by rw [hψ]; simp)
    have hheap : (w.alloc (.cells out (ti T).elem)).heap[w.heap.size]? = some (.cells out (ti T).elem (0, 0)) := by
      show (w.heap.push _)[w.heap.size]? = _
      simp
    have hold : ∀ k, k < w.heap.size → (w.alloc (.cells out (ti T).elem)).heap[k]? = w.heap[k]? := by
      intro k hk
      simp only [World.alloc, Array.getElem?_push]
      rw [if_neg (by omega)]
    have hrow : RowIs w c x (L.blk, L.off) := by
      refine ⟨arr, e, fz, hh, ?_, hfz rfl, fun j q hq => ?_⟩
      · have h1 : c.size = cs.length := by rw [← henc, Cd.enc_length]
        have h2 : 1 * L.size ≤ L.lim * L.size := Nat.mul_le_mul_right _ hcnt
        show L.off + c.size ≤ arr.size
        rw [h1, ← hs]; omega
      · obtain ⟨u, hu, hur⟩ := hcell 0 cs (by simp [Blk.rowAt]) j q (by rw [← henc]; exact hq)
        exact ⟨u, by simpa using hu, Cd.enc_flat c x q (List.mem_of_getElem? hq) φ _ u hur⟩
    have hgi := g.add (X := [k0]) (n := n0) (blk := .fam t c [some 0] [x]) (L := ⟨w.heap.size, 0, 1, 1, 1, [(L.blk, L.off)]⟩) (own := ownOf ⟨w.heap.size, 0, 1, 1, 1, [(L.blk, L.off)]⟩) (w' := w.alloc (.cells out (ti T).elem))
      (by simp; exact ⟨hw, by omega⟩) hφn hGn hm rfl (by rw [World.size_alloc]; omega) ⟨rfl, rfl, rfl⟩ (fun k hk _ => hold k hk)
      (fam_brel rfl rfl (Nat.le_refl _) (show (1 : Nat) ≠ 0 by decide) hheap (by show 0 + 1 ≤ out.size; omega) (fun x => by simp) rfl (by simp [ownOf]; omega)
        (fun i y hy => by
          have hi : i = 0 := by have := (List.getElem?_eq_some_iff.mp hy).1; simp at this; exact this
          subst hi
          simp at hy; subst hy
          exact ⟨_, hout, (L.blk, L.off), rfl, rfl⟩)
        (fun q p y hq hy => by
          have hi : q = 0 := by have := (List.getElem?_eq_some_iff.mp hq).1; simp at this; exact this
          subst hi
          simp at hq hy; subst hq; subst hy
          exact hrow.keep (hold _ hcl)))
      (fun c' hc' => by
        simp [ownOf] at hc'
        rcases hc' with rfl | rfl
        · exact .inl (Nat.le_refl _)
        · exact .inr ⟨k0, by simp, by rw [hψ]; simp⟩)
    refine hkk _ (fun b => if b = n0 then ownOf ⟨w.heap.size, 0, 1, 1, 1, [(L.blk, L.off)]⟩ else ψ b) _ _ ?_ hgi.2 ?_ ?_
    · have := hgi.1
      have e : (fun b => if b = n0 then Blk.fam t c [some 0] [x] else if b ∈ [k0] then Blk.dead else G b) = upd (upd G k0 .dead) n0 (.fam t c [some 0] [x]) := by funext b; simp [upd]
      rw [e] at this
      exact this
    · intro b hb
      by_cases e : b = n0
      · subst e; exact .inr ⟨Nat.le_refl _, by omega⟩
      · simp [e] at hb; exact .inl (by simpa using hb)
    · simp only [VRel]
      exact ⟨⟨w.heap.size, 0, 1, 1, 1, [(L.blk, L.off)]⟩, _, 1, by simp, rfl, rfl, by simp, by simp, by simp, .inr (by simp), fun d hd => by injection hd⟩
end Go.Proofs.YtdgipcjigbagfaaGreat.AB
