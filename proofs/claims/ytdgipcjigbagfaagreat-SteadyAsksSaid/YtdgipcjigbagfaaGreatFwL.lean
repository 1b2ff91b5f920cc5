/- Append onto a row; clear. -/
import Derived.Test.YtdgipcjigbagfaaGreatFwK
namespace Go.Proofs.YtdgipcjigbagfaaGreat.AB
set_option linter.unusedSimpArgs false
set_option linter.unusedVariables false
variable {P : Program} {ti : Nat → TyI} {o : Oper} {ρ : Operand → AVal}

theorem append_room (hti : TyOk P ti) {T ty : Nat} (hk : (ti T).kd = .slice) (hkn : (ti (ti T).elem).kd ≠ .other) (hz : (ti (ti T).elem).zero.length = (ti (ti T).elem).size)
    {w : World} {blk off len cp n cn : Nat} {ax : Addr} {news : List Value} {arr : Array Value} {e : TypeId} {fz : Nat × Nat} (hnl : news.length = n * (ti (ti T).elem).size)
    (hroom : len + n ≤ cp) (hh : w.heap[blk]? = some (.cells arr e fz)) (hf : ∀ x, ¬ (fz.1 ≤ x ∧ x < fz.2)) (hfit : off + (len + n) * (ti (ti T).elem).size ≤ arr.size) (h1 : ∀ u ∈ news, u.oneCell' = true)
    (hx : ∀ j u, news[j]? = some u → w.cell? (ax.add j) = some u) :
    ∃ w', (Builtin.append_ #[T, T] ty #[.slice (some ⟨blk, off, none⟩) len cp, .slice (some ax) n cn]).run P w = .ok (.slice (some ⟨blk, off, none⟩) (len + n) cp) w' ∧ (w'.heap.size = w.heap.size ∧ Side w w') ∧ (∀ k, k ≠ blk → w'.heap[k]? = w.heap[k]?) ∧
      ∃ arr', w'.heap[blk]? = some (.cells arr' e fz) ∧ arr'.size = arr.size ∧
        ∀ x, arr'[x]? = if off + len * (ti (ti T).elem).size ≤ x ∧ x < off + (len + n) * (ti (ti T).elem).size then news[x - (off + len * (ti (ti T).elem).size)]? else arr[x]? := by
  obtain ⟨i, z, hi, hzz, hs, hby, hzs⟩ := ty_of hti hkn hz
  have hund := und_slice hti hk
  have e1 : (len + n) * (ti (ti T).elem).size = len * (ti (ti T).elem).size + n * (ti (ti T).elem).size := Nat.add_mul _ _ _
  obtain ⟨w', hrun, ⟨hsz, hsd⟩, hot, arr', hh', hs', hx'⟩ := run_storeCells (P := P) news 0 w blk (off + len * (ti (ti T).elem).size) arr e fz hh hf (by rw [hnl]; omega) h1
  refine ⟨w', ?_, ⟨hsz, hsd⟩, hot, arr', hh', hs', fun x => ?_⟩
  · have hfc := run_firstCells_some (P := P) w i.size n ax n cn news (by rw [hs]; exact hnl) hx
    rw [hs] at hfc
    simp only [Builtin.append_, Sem.run_bind, run_underlying hund, Result.andThen_ok, sizeOf, typeInfo, hi, run_program, Sem.run_pure, hs, Builtin.lenOf]
    simp [run_underlying hund, hroom, hfc, add_none, hrun, hi, hs]
  · rw [hx' x, Nat.add_zero, hnl]
    congr 1
    rw [e1]; simp only [eq_iff_iff]; constructor <;> intro h <;> omega

theorem hgi_ext {φ : Map} {n0 : Nat} {L : Loc} (h : φ n0 = none) : Ext φ (fun b => if b = n0 then some L else φ b) := by
  intro b L' hb
  by_cases e : b = n0
  · subst e; rw [h] at hb; cases hb
  · simp [e, hb]

theorem impl_append (hti : TyOk P ti) {s x : Operand} {T : TypeId} {c : Cd} {sz1 b lo len sz b2 lo2 n : Nat} {cap1 cap : Option Nat} (ho : o.op = .call { callee := .builtin .append, args := #[s, x], argTypes := #[T, T] })
    (hk : (ti T).kd = .slice) (hkn : (ti (ti T).elem).kd ≠ .other) (hz : (ti (ti T).elem).zero.length = (ti (ti T).elem).size) (hb1 : 0 < (ti (ti T).elem).bytes) (hcs : c.size = (ti (ti T).elem).size)
    (hs : ρ s = .slice sz1 b lo len cap1) (hsz1 : sz1 = (ti (ti T).elem).size) (hx : ρ x = .slice sz b2 lo2 n cap) (hsz : sz = (ti (ti T).elem).size) (hn : 0 < n) (hbig : (len + n) * (ti (ti T).elem).bytes ≤ 35184372088832)
    (kill : Bool) (hkill : kill = false → ∃ d, cap1 = some d ∧ d < len + n) : Impl P o ρ (.app c (some (b, lo, len)) kill (some (b2, lo2, n))) := by
  intro B φ ψ G w a n0 v' G' rd wr nn hρ g hfr hm hp next Q hkk
  have h1 := hρ s (by simp [ho, Op.operands, Call.operands])
  have h2 := hρ x (by simp [ho, Op.operands, Call.operands])
  rw [hs] at h1; rw [hx] at h2
  have hcap : kill = false → ∀ ad c', a.eval s = .slice ad len c' → c' < len + n := by
    intro hkf ad c' hv
    obtain ⟨d, hd, hlt⟩ := hkill hkf
    simp only [VRel] at h1
    obtain ⟨L, ad', c'', _, hv', _, _, _, _, _, hc⟩ := h1
    rw [hv] at hv'; injection hv' with _ _ h3
    rw [h3, hc d hd]; exact hlt
  -- the rows on both sides
  have base : ∀ (l l2 : List c.El), RowsAre c G (some (b, lo, len)) l → RowsAre c G (some (b2, lo2, n)) l2 →
      ∃ (ad : Option Addr) (cp : Nat) (olds : List Value) (ax : Addr) (cn : Nat) (news : List Value), a.eval s = .slice ad len cp ∧ a.eval x = .slice (some ax) n cn ∧ len ≤ cp ∧
        VRels φ (l.flatMap c.enc) olds ∧ olds.length = len * c.size ∧ l.length = len ∧ VRels φ (l2.flatMap c.enc) news ∧ news.length = n * c.size ∧ l2.length = n ∧
        (0 < cp → ∃ L, φ b = some L ∧ ad = some ⟨L.blk, L.off + lo * L.size, none⟩ ∧ L.size = c.size ∧ lo + cp ≤ L.lim) ∧
        (len = 0 ∨ ∃ a : Addr, ad = some a ∧ ∀ (w' : World), (∀ k, w'.cell? k = w.cell? k) → ∀ j u, olds[j]? = some u → w'.cell? (a.add j) = some u) ∧
        (∀ j u, news[j]? = some u → w.cell? (ax.add j) = some u) := by
    intro l l2 hl hl2
    obtain ⟨l0, ro, hG1, rfl⟩ := hl
    obtain ⟨l0', ro', hG2, rfl⟩ := hl2
    obtain ⟨ad, cp, olds, hv, hlc, holds, hol, hcl, hpos, hread⟩ := rows_read g.s hG1 (hsz1.trans hcs.symm) h1
    obtain ⟨ad2, cn, news, hv2, hlc2, hnews, hnl, hcl2, _, hread2⟩ := rows_read g.s hG2 (hsz.trans hcs.symm) h2
    rcases hread2 with h0 | ⟨ax, rfl, hread2⟩
    · omega
    · exact ⟨ad, cp, olds, ax, cn, news, hv, hv2, hlc, holds, hol, hcl, hnews, hnl, hcl2, hpos, hread, hread2 w fun _ => rfl⟩
  -- where it grows
  have growing : ∀ (X : List Nat) (l l2 : List c.El) (ad : Option Addr) (cp : Nat) (olds : List Value) (ax : Addr) (cn : Nat) (news : List Value), a.eval s = .slice ad len cp → a.eval x = .slice (some ax) n cn → len ≤ cp →
        VRels φ (l.flatMap c.enc) olds → olds.length = len * c.size → l.length = len → VRels φ (l2.flatMap c.enc) news → news.length = n * c.size → l2.length = n →
        (0 < cp → ∃ L, φ b = some L ∧ ad = some ⟨L.blk, L.off + lo * L.size, none⟩ ∧ L.size = c.size ∧ lo + cp ≤ L.lim) →
        (len = 0 ∨ ∃ a : Addr, ad = some a ∧ ∀ (w' : World), (∀ k, w'.cell? k = w.cell? k) → ∀ j u, olds[j]? = some u → w'.cell? (a.add j) = some u) →
        (∀ j u, news[j]? = some u → w.cell? (ax.add j) = some u) → cp < len + n → (∀ b ∈ X, (G b).wr = true ∧ b ≠ n0) → φ n0 = none → G n0 = .dead →
        (∀ φ' ψ' w' cv, GI B φ' ψ' (fun b => if b = n0 then .rows c (l ++ l2) false else if b ∈ X then .dead else G b) w' → Ext φ φ' → (∀ b, φ' b ≠ none → φ b ≠ none ∨ (n0 ≤ b ∧ b < n0 + 1)) →
          VRel φ' (.slice c.size n0 0 (l ++ l2).length none) cv → next (a.put o.dst cv) w') → o.wp P a w next Q := by
    intro X l l2 ad cp olds ax cn news hv hv2 hlc holds hol hcl hnews hnl hcl2 hpos hread hread2 hgrow hX hφn hGn hkk
    have hbase : (ad = none ∧ len = 0 ∧ cp = 0) ∨ ∃ a, ad = some a ∧ ∀ j u, olds[j]? = some u → w.cell? (a.add j) = some u := by
      rcases hread with h0 | ⟨a1, rfl, hr⟩
      · cases ad with
        | none =>
          by_cases hcp : 0 < cp
          · obtain ⟨L, _, h, _⟩ := hpos hcp; cases h
          · exact .inl ⟨rfl, h0, by omega⟩
        | some a1 =>
          refine .inr ⟨a1, rfl, fun j u hj => ?_⟩
          have : olds = [] := List.eq_nil_of_length_eq_zero (by rw [hol, h0]; simp)
          rw [this] at hj; simp at hj
      · exact .inr ⟨a1, rfl, hr w fun _ => rfl⟩
    obtain ⟨gg, z, hge, hzs, hrun⟩ := append_grow (ty := o.type) hti hk hkn hz hb1 (w := w) (base := ad) (len := len) (cp := cp) (n := n) (cn := cn) (ax := ax) (olds := olds) (news := news) (by rw [hol, hcs]) (by rw [hnl, hcs]) hn hbig hgrow hbase hread2
    have hexec := exec_append (P := P) (w := w) (a := a) ho (by rw [hv, hv2]; exact hrun)
    unfold Oper.wp
    rw [hexec]
    have hlen : (l ++ l2).length = len + n := by simp [hcl, hcl2]
    have hgi := GI.grown (g := gg) (e := (ti T).elem) (zs := Builtin.zeroCells z.cells (gg - (len + n))) (X := X) g hX hφn hGn hm (flatMap_append' holds hnews) (by rw [hlen]; exact hge) (by omega) (by rw [zeroCells_size, hzs, hlen, hcs])
    refine hkk _ (fun b => if b = n0 then [w.heap.size] else ψ b) _ _ ?_ hgi.2 ?_ ?_
    · have := hgi.1
      simpa using this
    · intro b' hb
      by_cases e : b' = n0
      · subst e; exact .inr ⟨Nat.le_refl _, by omega⟩
      · simp [e] at hb; exact .inl (by simpa using hb)
    · simp only [VRel]
      exact ⟨⟨w.heap.size, 0, c.size, (l ++ l2).length, gg, []⟩, _, gg, by simp, by rw [hlen], rfl, by simp, by omega, by simp, .inr (by simp), by simp⟩
  cases hp
  case appF t d l f l2 f2 _ _ _ _ _ =>
    have hG1 : G b = .fam t d l f := by assumption
    have hG2 : G b2 = .fam t d l2 f2 := by assumption
    have hbb : b ≠ b2 := by assumption
    have hlt1 : b < n0 := by assumption
    have hlt2 : b2 < n0 := by assumption
    obtain ⟨hφn, hGn⟩ := hfr n0 (Nat.le_refl _) (by omega)
    obtain ⟨hz1, L, ad, cp, olds, hR⟩ := fam_read g.s hG1 h1
    obtain ⟨hz2, L2, ad2, cn, news, hR2⟩ := fam_read g.s hG2 h2
    have he1 : (ti (ti T).elem).size = 1 := by omega
    have hw1 : (G b).wr = true := by rw [hG1]; rfl
    have hw2 : (G b2).wr = true := by rw [hG2]; rfl
    have hlen : (cutL l lo len ++ (cutL l2 lo2 n).map (shiftF f.length)).length = len + n := by simp [hR.clen, hR2.clen]
    have hLF : L.fam.length = f.length := hR.fam.len
    have hFl : (L.fam ++ L2.fam).length = (f ++ f2).length := by simp [hR.fam.len, hR2.fam.len]
    have hdis : ∀ c' ∈ ownOf L, c' ∉ ownOf L2 := by
      have := g.s.disj b b2 hbb (wr_live hw1) (wr_live hw2) (.inl hw1)
      rw [hR.own, hR2.own] at this; exact this
    have hFn : ((L.fam ++ L2.fam).map (·.1)).Nodup := by
      rw [List.map_append]
      exact List.nodup_append.mpr ⟨fam_nodup hR.fam.nodup, fam_nodup hR2.fam.nodup, fun x hx y hy e => hdis x (fam_own hx) (fam_own (e ▸ hy))⟩
    have hFo : ∀ c' ∈ (L.fam ++ L2.fam).map (·.1), c' < w.heap.size ∧ ∃ b' ∈ [b, b2], c' ∈ ψ b' := by
      intro c' hc'
      rw [List.map_append] at hc'
      rcases List.mem_append.mp hc' with h | h
      · exact ⟨(g.s.rel b).own_lt (wr_live hw1) c' (by rw [hR.own]; exact fam_own h), b, by simp, by rw [hR.own]; exact fam_own h⟩
      · exact ⟨(g.s.rel b2).own_lt (wr_live hw2) c' (by rw [hR2.own]; exact fam_own h), b2, by simp, by rw [hR2.own]; exact fam_own h⟩
    have hX : ∀ b' ∈ [b, b2], (G b').wr = true ∧ b' ≠ n0 := by
      intro b' hb'; simp at hb'; rcases hb' with rfl | rfl
      · exact ⟨hw1, by omega⟩
      · exact ⟨hw2, by omega⟩
    have e : (fun b' => if b' = n0 then Blk.fam t d (cutL l lo len ++ (cutL l2 lo2 n).map (shiftF f.length)) (f ++ f2) else if b' ∈ [b, b2] then Blk.dead else G b') =
        upd (upd (upd G b .dead) b2 .dead) n0 (.fam t d (cutL l lo len ++ (cutL l2 lo2 n).map (shiftF f.length)) (f ++ f2)) := by
      funext b'
      by_cases e1 : b' = n0
      · simp [upd, e1]
      · by_cases e2 : b' = b
        · simp [upd, e2, hbb]
        · simp [upd, e1, e2]
    have hcells : ∀ (i : Nat) (x : Option Nat), (cutL l lo len ++ (cutL l2 lo2 n).map (shiftF f.length))[i]? = some x → ∃ u, (olds ++ news)[i]? = some u ∧ CellIs t (L.fam ++ L2.fam) x u := by
      intro i x hx
      rcases Nat.lt_or_ge i len with hi | hi
      · rw [List.getElem?_append_left (by rw [hR.clen]; exact hi)] at hx
        obtain ⟨u, hu, hur⟩ := hR.cells i x hx
        exact ⟨u, by rw [List.getElem?_append_left (by rw [hR.nlen]; exact hi)]; exact hu, hur.left⟩
      · rw [List.getElem?_append_right (by rw [hR.clen]; exact hi), hR.clen, List.getElem?_map] at hx
        cases hy : (cutL l2 lo2 n)[i - len]? with
        | none => rw [hy] at hx; cases hx
        | some y =>
          rw [hy] at hx; injection hx with hx; subst hx
          obtain ⟨u, hu, hur⟩ := hR2.cells _ y hy
          rw [← hLF]
          exact ⟨u, by rw [List.getElem?_append_right (by rw [hR.nlen]; exact hi), hR.nlen]; exact hu, hur.right⟩
    obtain ⟨ax, had2, hread2⟩ : ∃ ax : Addr, ad2 = some ax ∧ ∀ j u, news[j]? = some u → w.cell? (ax.add j) = some u := by
      rcases hR2.read with h0 | h
      · omega
      · exact h
    subst had2
    by_cases hgrow : cp < len + n
    · have hbase : (ad = none ∧ len = 0 ∧ cp = 0) ∨ ∃ a, ad = some a ∧ ∀ j u, olds[j]? = some u → w.cell? (a.add j) = some u := by
        rcases hR.read with h0 | h
        · cases ad with
          | none =>
            by_cases hcp : 0 < cp
            · have := hR.adr hcp; cases this
            · exact .inl ⟨rfl, h0, by omega⟩
          | some a1 =>
            refine .inr ⟨a1, rfl, fun j u hj => ?_⟩
            have : olds = [] := List.eq_nil_of_length_eq_zero (by rw [hR.nlen, h0])
            rw [this] at hj; simp at hj
        · exact .inr h
      obtain ⟨gg, z, hge, hzs, hrun⟩ := append_grow (ty := o.type) hti hk hkn hz hb1 (w := w) (base := ad) (len := len) (cp := cp) (n := n) (cn := cn) (ax := ax) (olds := olds) (news := news) (by rw [hR.nlen, he1, Nat.mul_one]) (by rw [hR2.nlen, he1, Nat.mul_one]) hn hbig hgrow hbase hread2
      have hexec := exec_append (P := P) (w := w) (a := a) ho (by rw [hR.val, hR2.val]; exact hrun)
      unfold Oper.wp
      rw [hexec]
      have hgi := GI.famGrown (t := t) (d := d) (l := cutL l lo len ++ (cutL l2 lo2 n).map (shiftF f.length)) (f := f ++ f2) (F := L.fam ++ L2.fam) (g := gg) (us := olds ++ news) (e := (ti T).elem) (zs := Builtin.zeroCells z.cells (gg - (len + n))) (X := [b, b2]) g hX hφn hGn hm
        (by rw [hlen, List.length_append, hR.nlen, hR2.nlen]) (by rw [hlen]; exact hge) (by omega) (by rw [zeroCells_size, hzs, hlen, he1, Nat.mul_one]) hFl hFn hFo hcells (rows_both hLF hR.fam.rows hR2.fam.rows fun _ _ => rfl)
      refine hkk _ (fun b' => if b' = n0 then ownOf ⟨w.heap.size, 0, 1, (cutL l lo len ++ (cutL l2 lo2 n).map (shiftF f.length)).length, gg, L.fam ++ L2.fam⟩ else ψ b') _ _ ?_ hgi.2 ?_ ?_
      · have := hgi.1
        rw [e] at this
        simpa using this
      · intro b' hb
        by_cases e : b' = n0
        · subst e; exact .inr ⟨Nat.le_refl _, by omega⟩
        · simp [e] at hb; exact .inl (by simpa using hb)
      · simp only [VRel]
        exact ⟨⟨w.heap.size, 0, 1, (cutL l lo len ++ (cutL l2 lo2 n).map (shiftF f.length)).length, gg, L.fam ++ L2.fam⟩, _, gg, by simp, by rw [hlen], by show 1 = c.size; omega, by simp, by rw [hlen]; omega, by simp, .inr (by simp), by simp⟩
    · have hroom : len + n ≤ cp := by omega
      have had := hR.adr (by omega)
      subst had
      have h0 : L.lim ≠ 0 := by have := hR.lim; omega
      obtain ⟨arr, e', fz, hh, hsz', hfz, harr⟩ := hR.arr h0
      have hlim := hR.lim
      obtain ⟨w', hrun, ⟨hsz'', hsd⟩, hot, arr', hh', hs', hx'⟩ := append_room (ty := o.type) (cn := cn) (ax := ax) (news := news) hti hk hkn hz (w := w) (blk := L.blk) (off := L.off + lo) (len := len) (cp := cp) (n := n) (by rw [hR2.nlen, he1, Nat.mul_one]) hroom hh hfz (by rw [he1]; omega)
        (fun u hu => by
          obtain ⟨j, hj⟩ := List.getElem?_of_mem hu
          have hjn : j < n := by have := (List.getElem?_eq_some_iff.mp hj).1; rw [hR2.nlen] at this; exact this
          obtain ⟨y, hy⟩ : ∃ y, (cutL l2 lo2 n)[j]? = some y := ⟨_, List.getElem?_eq_getElem (by rw [hR2.clen]; exact hjn)⟩
          obtain ⟨u', hu', hur⟩ := hR2.cells j y hy
          rw [hj] at hu'; injection hu' with hu'; subst hu'
          exact hur.one) hread2
      have hexec := exec_append (P := P) (w := w) (a := a) ho (by rw [hR.val, hR2.val]; exact hrun)
      have hap : ∀ p ∈ L.fam ++ L2.fam, p.1 ≠ L.blk := by
        intro p hp ep
        rcases List.mem_append.mp hp with h | h
        · obtain ⟨q, hq⟩ := List.getElem?_of_mem h
          exact fam_apart hR.fam.nodup h0 hq ep
        · exact hdis L.blk (by simp [ownOf, h0]) (fam_own (List.mem_map.mpr ⟨p, h, ep⟩))
      have hrel : BRel (fun b' => if b' = n0 then some ⟨L.blk, L.off + lo, 1, (cutL l lo len ++ (cutL l2 lo2 n).map (shiftF f.length)).length, L.lim - lo, L.fam ++ L2.fam⟩ else φ b') w' (.fam t d (cutL l lo len ++ (cutL l2 lo2 n).map (shiftF f.length)) (f ++ f2))
          (some ⟨L.blk, L.off + lo, 1, (cutL l lo len ++ (cutL l2 lo2 n).map (shiftF f.length)).length, L.lim - lo, L.fam ++ L2.fam⟩) (ownOf ⟨L.blk, L.off + lo, 1, (cutL l lo len ++ (cutL l2 lo2 n).map (shiftF f.length)).length, L.lim - lo, L.fam ++ L2.fam⟩) := by
        refine fam_brel rfl rfl (by show _ ≤ L.lim - lo; rw [hlen]; omega) (by show L.lim - lo ≠ 0; omega) hh' (by show L.off + lo + (L.lim - lo) ≤ _; rw [hs']; omega) hfz hFl ?_ (fun i x hx => ?_) (rows_both hLF hR.fam.rows hR2.fam.rows fun p hp => hot _ (hap p hp))
        · simp only [ownOf, show L.lim - lo ≠ 0 by omega, if_false, List.singleton_append, List.nodup_cons]
          refine ⟨fun h => ?_, hFn⟩
          obtain ⟨p, hp, ep⟩ := List.mem_map.mp h
          exact hap p hp ep
        · obtain ⟨u, hu, hur⟩ := hcells i x hx
          refine ⟨u, ?_, hur⟩
          have hin : i < len + n := by have := (List.getElem?_eq_some_iff.mp hx).1; rw [hlen] at this; exact this
          show arr'[L.off + lo + i]? = _
          rw [hx', he1, Nat.mul_one, Nat.mul_one]
          rcases Nat.lt_or_ge i len with hi | hi
          · rw [if_neg (by omega), harr i hi]
            rw [List.getElem?_append_left (by rw [hR.nlen]; exact hi)] at hu; exact hu
          · rw [if_pos (by omega)]
            rw [List.getElem?_append_right (by rw [hR.nlen]; exact hi), hR.nlen] at hu
            rw [show L.off + lo + i - (L.off + lo + len) = i - len by omega]; exact hu
      have hgi := g.add (X := [b, b2]) (n := n0) hX hφn hGn hm rfl (Nat.le_of_eq hsz''.symm) hsd (fun k hk hkX => hot k (fun ek => hkX b (by simp) (by rw [hR.own, ek]; simp [ownOf, h0]))) hrel (fun c' hc' => by
        unfold ownOf at hc'
        rcases List.mem_append.mp hc' with h | h
        · simp only [show L.lim - lo ≠ 0 by omega, if_false, List.mem_singleton] at h
          exact .inr ⟨b, by simp, by rw [hR.own, h]; simp [ownOf, h0]⟩
        · exact .inr (hFo c' h).2)
      unfold Oper.wp
      rw [hexec]
      refine hkk _ (fun b' => if b' = n0 then ownOf ⟨L.blk, L.off + lo, 1, (cutL l lo len ++ (cutL l2 lo2 n).map (shiftF f.length)).length, L.lim - lo, L.fam ++ L2.fam⟩ else ψ b') w' _ ?_ hgi.2 ?_ ?_
      · rw [← e]; exact hgi.1
      · intro b' hb
        by_cases e : b' = n0
        · subst e; exact .inr ⟨Nat.le_refl _, by omega⟩
        · simp [e] at hb; exact .inl (by simpa using hb)
      · simp only [VRel]
        exact ⟨⟨L.blk, L.off + lo, 1, (cutL l lo len ++ (cutL l2 lo2 n).map (shiftF f.length)).length, L.lim - lo, L.fam ++ L2.fam⟩, _, cp, by simp, by rw [hlen], by show 1 = c.size; omega, by simp, by rw [hlen]; exact hroom, by simp; omega, .inr (by simp), by simp⟩
  · -- without giving up
    rename_i l l2 hl hl2
    obtain ⟨hφn, hGn⟩ := hfr n0 (Nat.le_refl _) (by omega)
    obtain ⟨ad, cp, olds, ax, cn, news, hv, hv2, hlc, holds, hol, hcl, hnews, hnl, hcl2, hpos, hread, hread2⟩ := base l l2 hl hl2
    refine growing [] l l2 ad cp olds ax cn news hv hv2 hlc holds hol hcl hnews hnl hcl2 hpos hread hread2 (hcap rfl ad cp hv) (by simp) hφn hGn fun φ' ψ' w' cv hg he hb hvv => hkk φ' ψ' w' cv ?_ he hb hvv
    have e : (fun b => if b = n0 then Blk.rows c (l ++ l2) false else if b ∈ ([] : List Nat) then Blk.dead else G b) = upd G n0 (.rows c (l ++ l2) false) := by funext b; simp [upd]
    rw [e] at hg; exact hg
  · -- the row is given up
    rename_i l l2 hw hl hl2 hlt
    obtain ⟨hφn, hGn⟩ := hfr n0 (Nat.le_refl _) (by omega)
    have hbn : b ≠ n0 := by omega
    obtain ⟨ad, cp, olds, ax, cn, news, hv, hv2, hlc, holds, hol, hcl, hnews, hnl, hcl2, hpos, hread, hread2⟩ := base l l2 hl hl2
    have e : (fun b' => if b' = n0 then Blk.rows c (l ++ l2) false else if b' ∈ [b] then Blk.dead else G b') = upd (upd G b .dead) n0 (.rows c (l ++ l2) false) := by
      funext b'; simp [upd]
    by_cases hgrow : cp < len + n
    · refine growing [b] l l2 ad cp olds ax cn news hv hv2 hlc holds hol hcl hnews hnl hcl2 hpos hread hread2 hgrow (by simp; exact ⟨hw, hbn⟩) hφn hGn fun φ' ψ' w' cv hg he hb hvv => hkk φ' ψ' w' cv ?_ he hb hvv
      rw [e] at hg; exact hg
    · have hroom : len + n ≤ cp := by omega
      obtain ⟨L, hL, rfl, hLs, hLlim⟩ := hpos (by omega)
      have hnf : (G b).isFam = false := by obtain ⟨l0, ro, hG1, _⟩ := hl; rw [hG1]; rfl
      obtain ⟨L', hL', hs1, hc1, hr⟩ := (g.s.rel b).parts (wr_live hw) hnf
      rw [hL] at hL'; injection hL' with hL'; subst hL'
      rcases hr with ⟨h0, _, _⟩ | ⟨hψ, _, arr, e', fz, hh, hlim, hfz, hcell⟩
      · omega
      · have hfit : L.off + lo * L.size + (len + n) * (ti (ti T).elem).size ≤ arr.size := by
          have : (lo + (len + n)) * L.size ≤ L.lim * L.size := Nat.mul_le_mul_right _ (by omega)
          rw [Nat.add_mul] at this
          rw [← hcs, ← hLs]; omega
        obtain ⟨w', hrun, ⟨hsz', hsd⟩, hot, arr', hh', hs', hx'⟩ := append_room (ty := o.type) (cn := cn) (ax := ax) (news := news) hti hk hkn hz (w := w) (blk := L.blk) (off := L.off + lo * L.size) (len := len) (cp := cp) (n := n) (by rw [hnl, hcs]) hroom hh (hfz hw) hfit
          (scals_one (scals_flat c.enc (enc_scal c) l2) hnews) hread2
        have hexec := exec_append (P := P) (w := w) (a := a) ho (by rw [hv, hv2]; exact hrun)
        have hlen : (l ++ l2).length = len + n := by simp [hcl, hcl2]
        have hgi := g.add (X := [b]) (n := n0) (blk := .rows c (l ++ l2) false) (L := ⟨L.blk, L.off + lo * L.size, c.size, (l ++ l2).length, L.lim - lo, []⟩) (own := [L.blk]) (w' := w') (by simp; exact ⟨hw, hbn⟩) hφn hGn hm rfl (Nat.le_of_eq hsz'.symm) hsd
          (fun k hk hX => hot k (fun ek => hX b (by simp) (by rw [hψ]; simp [ek]))) ?_ (by intro k hk; simp at hk; subst hk; exact .inr ⟨b, by simp, by rw [hψ]; simp⟩)
        · unfold Oper.wp
          rw [hexec]
          refine hkk _ (fun b' => if b' = n0 then [L.blk] else ψ b') w' _ ?_ hgi.2 ?_ ?_
          · rw [← e]; exact hgi.1
          · intro b' hb
            by_cases e : b' = n0
            · subst e; exact .inr ⟨Nat.le_refl _, by omega⟩
            · simp [e] at hb; exact .inl (by simpa using hb)
          · simp only [VRel]
            exact ⟨⟨L.blk, L.off + lo * L.size, c.size, (l ++ l2).length, L.lim - lo, []⟩, _, cp, by simp, by rw [hlen], rfl, by simp, by omega, by simp; omega, .inr (by simp), by simp⟩
        · refine BRel.of rfl rfl rfl rfl (by show 0 < L.lim - lo; omega) ⟨by show (l ++ l2).length ≤ L.lim - lo; omega, arr', e', fz, hh', ?_, fun _ => hfz hw, fun i cs hi j y hy => ?_⟩ rfl rfl
          · show L.off + lo * L.size + (L.lim - lo) * c.size ≤ arr'.size
            rw [hs']
            have : (lo + (L.lim - lo)) * L.size = L.lim * L.size := by congr 1; omega
            rw [Nat.add_mul] at this
            rw [← hLs]; omega
          · simp only [Blk.rowAt] at hi
            cases hxi : (l ++ l2)[i]? with
            | none => simp [hxi] at hi
            | some xx =>
              simp [hxi] at hi; subst hi
              have hj : j < c.size := by rw [← Cd.enc_length c xx]; exact (List.getElem?_eq_some_iff.mp hy).1
              have hext := hgi_ext (n0 := n0) (φ := φ) hφn (L := ⟨L.blk, L.off + lo * L.size, c.size, (l ++ l2).length, L.lim - lo, []⟩)
              show ∃ v, arr'[L.off + lo * L.size + i * c.size + j]? = some v ∧ _
              rw [hx', ← hcs]
              rcases Nat.lt_or_ge i len with hil | hil
              · have hnot : ¬ (L.off + lo * L.size + len * c.size ≤ L.off + lo * L.size + i * c.size + j) := by
                  have := row_in hil hj; omega
                rw [if_neg (fun h => hnot h.1)]
                rw [List.getElem?_append_left (by omega)] at hxi
                obtain ⟨l0, ro, hG1, rfl⟩ := hl
                obtain ⟨_, hxi'⟩ := cutL_get hxi
                obtain ⟨u, hu, hur⟩ := hcell (lo + i) (c.enc xx) (by rw [hG1]; simp [Blk.rowAt, hxi']) j y hy
                refine ⟨u, ?_, VRel.ext hext y hur⟩
                rw [hLs] at hu ⊢
                rw [show L.off + lo * c.size + i * c.size + j = L.off + (lo + i) * c.size + j by rw [Nat.add_mul]; omega]
                exact hu
              · rw [List.getElem?_append_right (by omega), hcl] at hxi
                have hi2 : i - len < n := by rw [← hcl2]; exact (List.getElem?_eq_some_iff.mp hxi).1
                have e2 : i * c.size = len * c.size + (i - len) * c.size := by rw [← Nat.add_mul]; congr 1; omega
                have hin := row_in hi2 hj
                have e3 : (len + n) * c.size = len * c.size + n * c.size := Nat.add_mul _ _ _
                rw [if_pos ⟨by omega, by omega⟩]
                obtain ⟨u, hu, hur⟩ := rows_cells hnews hxi hy
                refine ⟨u, ?_, VRel.ext hext y hur⟩
                rw [show L.off + lo * L.size + i * c.size + j - (L.off + lo * L.size + len * c.size) = (i - len) * c.size + j by omega]
                exact hu
end Go.Proofs.YtdgipcjigbagfaaGreat.AB
