/- Append, clear, calls. -/
import Derived.Test.YtdgipcjigbagfaaGreatFwJ
namespace Go.Proofs.YtdgipcjigbagfaaGreat.AB
set_option linter.unusedSimpArgs false
set_option linter.unusedVariables false
variable {P : Program} {ti : Nat → TyI} {o : Oper} {ρ : Operand → AVal}

theorem ty_of (hti : TyOk P ti) {e : Nat} (h : (ti e).kd ≠ .other) (hz : (ti e).zero.length = (ti e).size) : ∃ i z, P.info? e = some i ∧ i.zero = some z ∧ i.size = (ti e).size ∧ i.bytes = (ti e).bytes ∧ z.cells.size = (ti e).size := by
  obtain ⟨i, d, z, t⟩ := hti e h
  exact ⟨i, z, t.info, t.zero, t.size, t.bytes, by have := (t.zrel fun _ => none).length; rw [hz] at this; simpa using this⟩

theorem append_grow (hti : TyOk P ti) {T ty : Nat} (hk : (ti T).kd = .slice) (hkn : (ti (ti T).elem).kd ≠ .other) (hz : (ti (ti T).elem).zero.length = (ti (ti T).elem).size) (hb1 : 0 < (ti (ti T).elem).bytes)
    {w : World} {base : Option Addr} {len cp n cn : Nat} {ax : Addr} {olds news : List Value} (hol : olds.length = len * (ti (ti T).elem).size) (hnl : news.length = n * (ti (ti T).elem).size) (hn : 0 < n)
    (hbig : (len + n) * (ti (ti T).elem).bytes ≤ 35184372088832) (hgrow : cp < len + n)
    (hbase : (base = none ∧ len = 0 ∧ cp = 0) ∨ ∃ a, base = some a ∧ ∀ j u, olds[j]? = some u → w.cell? (a.add j) = some u)
    (hx : ∀ j u, news[j]? = some u → w.cell? (ax.add j) = some u) :
    ∃ (g : Nat) (z : Value), len + n ≤ g ∧ z.cells.size = (ti (ti T).elem).size ∧ (Builtin.append_ #[T, T] ty #[.slice base len cp, .slice (some ax) n cn]).run P w =
      .ok (.slice (some ⟨w.heap.size, 0, none⟩) (len + n) g) (w.drew.alloc (.cells (olds.toArray ++ news.toArray ++ Builtin.zeroCells z.cells (g - (len + n))) (ti T).elem)) := by
  obtain ⟨i, z, hi, hzz, hs, hby, hzs⟩ := ty_of hti hkn hz
  have hund := und_slice hti hk
  have hsmall : len + n ≤ 35184372088832 := Nat.le_trans (Nat.le_mul_of_pos_right _ hb1) hbig
  rcases hbase with ⟨rfl, rfl, rfl⟩ | ⟨a, rfl, ha⟩
  · have h0 : olds = [] := List.eq_nil_of_length_eq_zero (by simpa using hol)
    subst h0
    have hr := run_append_nil (P := P) w T ty (ti T).elem i z hund hi hzz ax n cn news (by rw [hs]; exact hnl) hx hn (by omega) (by rw [hby]; rw [Nat.zero_add] at hbig; omega)
    refine ⟨grownCap w n 0 (ti T).elem, z, ?_, hzs, ?_⟩
    · rw [Nat.zero_add]; exact grownCap_ge w n 0 _
    · rw [Nat.zero_add]; simpa using hr
  · have hr := run_append_grow (P := P) w T ty (ti T).elem i z hund hi hzz a len cp olds (by rw [hs]; exact hol) ha ax n cn news (by rw [hs]; exact hnl) hx hgrow (by omega) (growslice_fits hgrow (by rw [hby]; omega))
    exact ⟨grownCap w (len + n) cp (ti T).elem, z, grownCap_ge w _ _ _, hzs, hr⟩

theorem zeroCells_size (z : Array Value) (n : Nat) : (Builtin.zeroCells z n).size = n * z.size := by simp [Builtin.zeroCells]

theorem rows_cells {φ : Map} {c : Cd} {l : List c.El} {us : List Value} (h : VRels φ (l.flatMap c.enc) us) {i : Nat} {x : c.El} {j : Nat} {a : AVal} (hx : l[i]? = some x) (ha : (c.enc x)[j]? = some a) :
    ∃ u, us[i * c.size + j]? = some u ∧ VRel φ a u := h.get _ _ (flat_get c.enc c.size l (Cd.enc_length c) i x j a hx ha)

/-- the new block that an append that grows makes -/
theorem GI.grown {B : Base} {φ : Map} {ψ : Nat → List Nat} {G : Nat → Blk} {w : World} {X : List Nat} {n : Nat} {c : Cd} {l : List c.El} {us : List Value} {e : TypeId} {zs : Array Value} {g : Nat} (gi : GI B φ ψ G w)
    (hX : ∀ b ∈ X, (G b).wr = true ∧ b ≠ n) (hφ : φ n = none) (hG : G n = .dead) (hm : B.m ≤ n) (hus : VRels φ (l.flatMap c.enc) us) (hg : l.length ≤ g) (h0 : 0 < g) (hzs : zs.size = (g - l.length) * c.size) :
    GI B (fun b => if b = n then some ⟨w.heap.size, 0, c.size, l.length, g, []⟩ else φ b) (fun b => if b = n then [w.heap.size] else ψ b) (fun b => if b = n then .rows c l false else if b ∈ X then .dead else G b)
      (w.drew.alloc (.cells (us.toArray ++ zs) e)) ∧ Ext φ (fun b => if b = n then some ⟨w.heap.size, 0, c.size, l.length, g, []⟩ else φ b) := by
  have hul : us.length = l.length * c.size := by rw [hus.length, flatMap_length c.enc c.size (Cd.enc_length c)]
  have hheap : (w.drew.alloc (.cells (us.toArray ++ zs) e)).heap[w.heap.size]? = some (.cells (us.toArray ++ zs) e (0, 0)) := by
    show (w.heap.push _)[w.heap.size]? = _
    simp
  have hext : Ext φ (fun b => if b = n then some ⟨w.heap.size, 0, c.size, l.length, g, []⟩ else φ b) := by
    intro b L' hb
    by_cases e : b = n
    · subst e; rw [hφ] at hb; cases hb
    · simp [e, hb]
  refine gi.add (L := ⟨w.heap.size, 0, c.size, l.length, g, []⟩) (own := [w.heap.size]) hX hφ hG hm rfl (by rw [World.size_alloc]; simp) ⟨rfl, rfl, rfl⟩ (fun k hk _ => ?_) ?_ (by simp)
  · show (w.heap.push _)[k]? = _
    rw [Array.getElem?_push, if_neg (by omega)]
  · refine BRel.of rfl rfl rfl rfl h0 ⟨hg, us.toArray ++ zs, e, (0, 0), hheap, ?_, fun _ x => by simp, fun i cs hi j a ha => ?_⟩ rfl rfl
    · have h1 : (us.toArray ++ zs).size = l.length * c.size + (g - l.length) * c.size := by simp [hul, hzs]
      rw [h1, ← Nat.add_mul, show l.length + (g - l.length) = g by omega]; simp
    · simp only [Blk.rowAt] at hi
      cases hx : l[i]? with
      | none => simp [hx] at hi
      | some x =>
        simp [hx] at hi; subst hi
        obtain ⟨u, hu, hur⟩ := rows_cells hus hx ha
        refine ⟨u, ?_, VRel.ext hext a hur⟩
        have hlt := (List.getElem?_eq_some_iff.mp hu).1
        show (us.toArray ++ zs)[0 + i * c.size + j]? = _
        rw [Array.getElem?_append, if_pos (by simpa using hlt)]
        simpa using hu

/-- the new family that an append that grows makes -/
theorem GI.famGrown {B : Base} {φ : Map} {ψ : Nat → List Nat} {G : Nat → Blk} {w : World} {X : List Nat} {n : Nat} {t : Nat} {d : Cd} {l : List (Option Nat)} {f : List d.El} {F : List (Nat × Nat)} {us : List Value} {e : TypeId} {zs : Array Value} {g : Nat} (gi : GI B φ ψ G w)
    (hX : ∀ b ∈ X, (G b).wr = true ∧ b ≠ n) (hφ : φ n = none) (hG : G n = .dead) (hm : B.m ≤ n) (hul : us.length = l.length) (hg : l.length ≤ g) (h0 : 0 < g) (hzs : zs.size = g - l.length)
    (hF : F.length = f.length) (hFn : (F.map (·.1)).Nodup) (hFo : ∀ c ∈ F.map (·.1), c < w.heap.size ∧ ∃ b ∈ X, c ∈ ψ b)
    (hcells : ∀ (i : Nat) (x : Option Nat), l[i]? = some x → ∃ u, us[i]? = some u ∧ CellIs t F x u) (hrows : ∀ (q : Nat) (p : Nat × Nat) (x : d.El), F[q]? = some p → f[q]? = some x → RowIs w d x p) :
    GI B (fun b => if b = n then some ⟨w.heap.size, 0, 1, l.length, g, F⟩ else φ b) (fun b => if b = n then ownOf ⟨w.heap.size, 0, 1, l.length, g, F⟩ else ψ b) (fun b => if b = n then .fam t d l f else if b ∈ X then .dead else G b)
      (w.drew.alloc (.cells (us.toArray ++ zs) e)) ∧ Ext φ (fun b => if b = n then some ⟨w.heap.size, 0, 1, l.length, g, F⟩ else φ b) := by
  have hheap : (w.drew.alloc (.cells (us.toArray ++ zs) e)).heap[w.heap.size]? = some (.cells (us.toArray ++ zs) e (0, 0)) := by
    show (w.heap.push _)[w.heap.size]? = _
    simp
  have hold : ∀ k, k < w.heap.size → (w.drew.alloc (.cells (us.toArray ++ zs) e)).heap[k]? = w.heap[k]? := by
    intro k hk
    show (w.heap.push _)[k]? = _
    rw [Array.getElem?_push, if_neg (by omega)]
  refine gi.add (L := ⟨w.heap.size, 0, 1, l.length, g, F⟩) (own := ownOf ⟨w.heap.size, 0, 1, l.length, g, F⟩) hX hφ hG hm rfl (by rw [World.size_alloc]; simp) ⟨rfl, rfl, rfl⟩ (fun k hk _ => hold k hk) ?_ ?_
  · refine fam_brel (L := ⟨w.heap.size, 0, 1, l.length, g, F⟩) rfl rfl hg (by show g ≠ 0; omega) hheap (by show 0 + g ≤ _; simp [hul, hzs]; omega) (fun x => by simp) hF ?_ (fun i x hx => ?_) (fun q p x hq hx => (hrows q p x hq hx).keep (hold _ ?_))
    · simp only [ownOf, show g ≠ 0 by omega, if_false, List.singleton_append, List.nodup_cons]
      exact ⟨fun h => by have := (hFo _ h).1; omega, hFn⟩
    · obtain ⟨u, hu, hur⟩ := hcells i x hx
      refine ⟨u, ?_, hur⟩
      have hlt := (List.getElem?_eq_some_iff.mp hu).1
      show (us.toArray ++ zs)[0 + i]? = _
      rw [Nat.zero_add, Array.getElem?_append, if_pos (by simpa using hlt)]
      simpa using hu
    · exact (hFo _ (List.mem_map.mpr ⟨p, List.mem_of_getElem? hq, rfl⟩)).1
  · intro c hc
    unfold ownOf at hc
    rcases List.mem_append.mp hc with hc | hc
    · simp only [show g ≠ 0 by omega, if_false, List.mem_singleton] at hc
      exact .inl (Nat.le_of_eq hc.symm)
    · exact .inr (hFo c hc).2

theorem flatMap_append' {φ : Map} {c : Cd} {l l2 : List c.El} {us vs : List Value} (h : VRels φ (l.flatMap c.enc) us) (h2 : VRels φ (l2.flatMap c.enc) vs) : VRels φ ((l ++ l2).flatMap c.enc) (us ++ vs) := by
  rw [List.flatMap_append]; exact h.append h2

theorem exec_append {s x : Operand} {T : TypeId} {a : Act} {w w' : World} {cv : Value} (ho : o.op = .call { callee := .builtin .append, args := #[s, x], argTypes := #[T, T] })
    (h : (Builtin.append_ #[T, T] o.type #[a.eval s, a.eval x]).run P w = .ok cv w') : (execOp a.eval o).run P w = .ok (.value cv) w' := by
  simp only [execOp, ho, resolve, Sem.run_bind, Sem.run_pure, Result.andThen_ok, invoke, builtin]
  rw [show (#[s, x].map a.eval) = #[a.eval s, a.eval x] by simp, h]
  simp

theorem impl_append_nil (hti : TyOk P ti) {s x : Operand} {T : TypeId} {c : Cd} {sz b2 lo2 n : Nat} {cap : Option Nat} (ho : o.op = .call { callee := .builtin .append, args := #[s, x], argTypes := #[T, T] })
    (hk : (ti T).kd = .slice) (hkn : (ti (ti T).elem).kd ≠ .other) (hz : (ti (ti T).elem).zero.length = (ti (ti T).elem).size) (hb1 : 0 < (ti (ti T).elem).bytes) (hcs : c.size = (ti (ti T).elem).size)
    (hs : ρ s = .nils) (hx : ρ x = .slice sz b2 lo2 n cap) (hsz : sz = (ti (ti T).elem).size) (hn : 0 < n) (hbig : n * (ti (ti T).elem).bytes ≤ 35184372088832) : Impl P o ρ (.app c none false (some (b2, lo2, n))) := by
  intro B φ ψ G w a n0 v' G' rd wr nn hρ g hfr hm hp next Q hkk
  cases hp
  case appF0 t d l2 f2 hG2 hlt =>
    obtain ⟨hφn, hGn⟩ := hfr n0 (Nat.le_refl _) (by omega)
    have h1 := hρ s (by simp [ho, Op.operands, Call.operands])
    have h2 := hρ x (by simp [ho, Op.operands, Call.operands])
    rw [hs] at h1; rw [hx] at h2
    simp only [VRel] at h1
    obtain ⟨hsz1, L, ad, cp, news, hR⟩ := fam_read g.s hG2 h2
    have he1 : (ti (ti T).elem).size = 1 := by omega
    rcases hR.read with h0 | ⟨ax, rfl, hread⟩
    · omega
    · obtain ⟨gg, z, hge, hzs, hrun⟩ := append_grow (ty := o.type) hti hk hkn hz hb1 (w := w) (base := none) (len := 0) (cp := 0) (cn := cp) (olds := []) (news := news) (by simp) (by rw [hR.nlen, he1, Nat.mul_one]) hn (by rw [Nat.zero_add]; exact hbig) (by omega) (.inl ⟨rfl, rfl, rfl⟩) hread
      have hexec := exec_append (P := P) (w := w) (a := a) ho (by rw [h1, hR.val]; exact hrun)
      unfold Oper.wp
      rw [hexec]
      have hwr2 : (G b2).wr = true := by rw [hG2]; rfl
      have hgi := GI.famGrown (t := t) (d := d) (l := cutL l2 lo2 n) (f := f2) (F := L.fam) (g := gg) (us := news) (e := (ti T).elem) (zs := Builtin.zeroCells z.cells (gg - (0 + n))) (X := [b2]) g (by simp; exact ⟨hwr2, by omega⟩) hφn hGn hm
        (by rw [hR.nlen, hR.clen]) (by rw [hR.clen]; omega) (by omega) (by rw [zeroCells_size, hzs, hR.clen, he1, Nat.zero_add, Nat.mul_one]) hR.fam.len (fam_nodup hR.fam.nodup)
        (fun c' hc' => ⟨(g.s.rel b2).own_lt (by rw [hG2]; rfl) c' (by rw [hR.own]; exact fam_own hc'), b2, by simp, by rw [hR.own]; exact fam_own hc'⟩) hR.cells hR.fam.rows
      refine hkk _ (fun b => if b = n0 then ownOf ⟨w.heap.size, 0, 1, (cutL l2 lo2 n).length, gg, L.fam⟩ else ψ b) _ _ ?_ hgi.2 ?_ ?_
      · have := hgi.1
        have e : (fun b => if b = n0 then Blk.fam t d (cutL l2 lo2 n) f2 else if b ∈ [b2] then Blk.dead else G b) = upd (upd G b2 .dead) n0 (.fam t d (cutL l2 lo2 n) f2) := by funext b; simp [upd]
        rw [e] at this
        simpa using this
      · intro b hb
        by_cases e : b = n0
        · subst e; exact .inr ⟨Nat.le_refl _, by omega⟩
        · simp [e] at hb; exact .inl (by simpa using hb)
      · simp only [VRel]
        exact ⟨⟨w.heap.size, 0, 1, (cutL l2 lo2 n).length, gg, L.fam⟩, _, gg, by simp, by rw [hR.clen, Nat.zero_add], by show 1 = c.size; omega, by simp, by rw [hR.clen]; omega, by simp, .inr (by simp), by simp⟩
  rename_i l l2 hl hl2
  obtain ⟨hφn, hGn⟩ := hfr n0 (Nat.le_refl _) (by omega)
  simp only [RowsAre] at hl hl2
  subst hl
  obtain ⟨l0, ro, hG2, rfl⟩ := hl2
  have h1 := hρ s (by simp [ho, Op.operands, Call.operands])
  have h2 := hρ x (by simp [ho, Op.operands, Call.operands])
  rw [hs] at h1; rw [hx] at h2
  simp only [VRel] at h1
  obtain ⟨ad, cp, news, hv, hnc, hnews, hnl, hcl, hpos, hread⟩ := rows_read g.s hG2 (hsz.trans hcs.symm) h2
  rcases hread with h0 | ⟨ax, rfl, hread⟩
  · omega
  · obtain ⟨gg, z, hge, hzs, hrun⟩ := append_grow (ty := o.type) hti hk hkn hz hb1 (w := w) (base := none) (len := 0) (cp := 0) (cn := cp) (olds := []) (news := news) (by simp) (by rw [hnl, hcs]) hn (by rw [Nat.zero_add]; exact hbig) (by omega) (.inl ⟨rfl, rfl, rfl⟩) (hread w fun _ => rfl)
    have hexec := exec_append (P := P) (w := w) (a := a) ho (by rw [h1, hv]; exact hrun)
    unfold Oper.wp
    rw [hexec]
    have hgi := GI.grown (g := gg) (e := (ti T).elem) (zs := Builtin.zeroCells z.cells (gg - (0 + n))) (X := []) g (by simp) hφn hGn hm hnews (by rw [hcl]; omega) (by omega) (by rw [zeroCells_size, hzs, hcl, hcs, Nat.zero_add])
    simp only [List.nil_append] at hkk
    refine hkk _ (fun b => if b = n0 then [w.heap.size] else ψ b) _ _ ?_ hgi.2 ?_ ?_
    · have := hgi.1
      have e : (fun b => if b = n0 then Blk.rows c (cutL l0 lo2 n) false else if b ∈ ([] : List Nat) then Blk.dead else G b) = upd G n0 (.rows c (cutL l0 lo2 n) false) := by funext b; simp [upd]
      rw [e] at this
      simpa using this
    · intro b hb
      by_cases e : b = n0
      · subst e; exact .inr ⟨Nat.le_refl _, by omega⟩
      · simp [e] at hb; exact .inl (by simpa using hb)
    · simp only [VRel]
      exact ⟨⟨w.heap.size, 0, c.size, (cutL l0 lo2 n).length, gg, []⟩, _, gg, by simp, by rw [hcl, Nat.zero_add], rfl, by simp, by omega, by simp, .inr (by simp), by simp⟩
end Go.Proofs.YtdgipcjigbagfaaGreat.AB
