/- Append onto a row; clear. -/
import Derived.Test.YtfoaihjkmfhaoaaFwK
namespace Go.Proofs.Ytfoaihjkmfhaoaa.AB
set_option linter.unusedSimpArgs false
set_option linter.unusedVariables false
variable {P : Program} {ti : Nat → TyI} {o : Oper} {ρ : Operand → AVal}

theorem append_room (hti : TyOk P ti) {T ty : Nat} (hk : (ti T).kd = .slice) (hkn : (ti (ti T).elem).kd ≠ .other) (hz : (ti (ti T).elem).zero.length = (ti (ti T).elem).size)
    {w : World} {blk off len cp n cn : Nat} {ax : Addr} {news : List Value} {arr : Array Value} {e : TypeId} {fz : Nat × Nat} (hnl : news.length = n * (ti (ti T).elem).size)
    (hroom : len + n ≤ cp) (hh : w.heap[blk]? = some (.cells arr e fz)) (hf : ∀ x, ¬ (fz.1 ≤ x ∧ x < fz.2)) (hfit : off + (len + n) * (ti (ti T).elem).size ≤ arr.size) (h1 : ∀ u ∈ news, u.oneCell' = true)
    (hx : ∀ j u, news[j]? = some u → w.cell? (ax.add j) = some u) :
    ∃ w', (Builtin.append_ #[T, T] ty #[.slice (some ⟨blk, off, none⟩) len cp, .slice (some ax) n cn]).run P w = .ok (.slice (some ⟨blk, off, none⟩) (len + n) cp) w' ∧ (w'.heap.size = w.heap.size ∧ Side w w') ∧ (∀ k, k ≠ blk → w'.heap[k]? = w.heap[k]?) ∧
      ∃ arr', w'.heap[blk]? = some (.cells arr' e fz) ∧ arr'.size = arr.size ∧
        ∀ x, arr'[x]? = if off + len * (ti (ti T).elem).size ≤ x ∧ x < off + (len + n) * (ti (ti T).elem).size then news[x - (off + len * (ti (ti T).elem).size)]? else arr[x]? := by
  obtain ⟨i, z, hi, hzz, hs, hby, hzs⟩ := ty_of hti hkn hz
  have hund := und_slice hti hk
  have e1 : (len + n) * (ti (ti T).elem).size = len * (ti (ti T).elem).size + n * (ti (ti T).elem).size := Nat.add_mul _ _ _
  obtain ⟨w', hrun, ⟨hsz, hsd⟩, hot, arr', hh', hs', hx'⟩ := run_storeCells (P := P) news 0 w blk (off + len * (ti (ti T).elem).size) arr e fz hh hf (by rw [hnl]; omega) h1
  refine ⟨w', ?_, ⟨hsz, hsd⟩, hot, arr', hh', hs', fun x => ?_⟩
  · have hfc := run_firstCells_some (P := P) w i.size n ax n cn news (by rw [hs]; exact hnl) hx
    rw [hs] at hfc
    simp only [Builtin.append_, Sem.run_bind, run_underlying hund, Result.andThen_ok, sizeOf, typeInfo, hi, run_program, Sem.run_pure, hs, Builtin.lenOf]
    simp [run_underlying hund, hroom, hfc, add_none, hrun, hi, hs]
  · rw [hx' x, Nat.add_zero, hnl]
    congr 1
    rw [e1]; simp only [eq_iff_iff]; constructor <;> intro h <;> omega

theorem hgi_ext {φ : Map} {n0 : Nat} {L : Loc} (h : φ n0 = none) : Ext φ (fun b => if b = n0 then some L else φ b) := by
  intro b L' hb
  by_cases e : b = n0
  · subst e; rw [h] at hb; cases hb
  · simp [e, hb]

theorem impl_append (hti : TyOk P ti) {s x : Operand} {T : TypeId} {c : Cd} {sz1 b lo len sz b2 lo2 n : Nat} {cap1 cap : Option Nat} (ho : o.op = .call { callee := .builtin .append, args := #[s, x], argTypes := #[T, T] })
    (hk : (ti T).kd = .slice) (hkn : (ti (ti T).elem).kd ≠ .other) (hz : (ti (ti T).elem).zero.length = (ti (ti T).elem).size) (hb1 : 0 < (ti (ti T).elem).bytes) (hcs : c.size = (ti (ti T).elem).size)
    (hs : ρ s = .slice sz1 b lo len cap1) (hsz1 : sz1 = (ti (ti T).elem).size) (hx : ρ x = .slice sz b2 lo2 n cap) (hsz : sz = (ti (ti T).elem).size) (hn : 0 < n) (hbig : (len + n) * (ti (ti T).elem).bytes ≤ 35184372088832)
    (kill : Bool) (hkill : kill = false → ∃ d, cap1 = some d ∧ d < len + n) : Impl P o ρ (.app c (some (b, lo, len)) kill (some (b2, lo2, n))) := by
  intro B φ ψ G w a n0 v' G' rd wr nn hρ g hfr hm hp next Q hkk
  have h1 := hρ s (by simp [ho, Op.operands, Call.operands])
  have h2 := hρ x (by simp [ho, Op.operands, Call.operands])
  rw [hs] at h1; rw [hx] at h2
  have hcap : kill = false → ∀ ad c', a.eval s = .slice ad len c' → c' < len + n := by
    intro hkf ad c' hv
    obtain ⟨d, hd, hlt⟩ := hkill hkf
    simp only [VRel] at h1
    obtain ⟨L, ad', c'', _, hv', _, _, _, _, _, hc⟩ := h1
    rw [hv] at hv'; injection hv' with _ _ h3
    rw [h3, hc d hd]; exact hlt
  -- the rows on both sides
  have base : ∀ (l l2 : List c.El), RowsAre c G (some (b, lo, len)) l → RowsAre c G (some (b2, lo2, n)) l2 →
      ∃ (ad : Option Addr) (cp : Nat) (olds : List Value) (ax : Addr) (cn : Nat) (news : List Value), a.eval s = .slice ad len cp ∧ a.eval x = .slice (some ax) n cn ∧ len ≤ cp ∧
        VRels φ (l.flatMap c.enc) olds ∧ olds.length = len * c.size ∧ l.length = len ∧ VRels φ (l2.flatMap c.enc) news ∧ news.length = n * c.size ∧ l2.length = n ∧
        (0 < cp → ∃ L, φ b = some L ∧ ad = some ⟨L.blk, L.off + lo * L.size, none⟩ ∧ L.size = c.size ∧ lo + cp ≤ L.lim) ∧
        (len = 0 ∨ ∃ a : Addr, ad = some a ∧ ∀ (w' : World), (∀ k, w'.cell? k = w.cell? k) → ∀ j u, olds[j]? = some u → w'.cell? (a.add j) = some u) ∧
        (∀ j u, news[j]? = some u → w.cell? (ax.add j) = some u) := by
    intro l l2 hl hl2
    obtain ⟨l0, ro, hG1, rfl⟩ := hl
    obtain ⟨l0', ro', hG2, rfl⟩ := hl2
    obtain ⟨ad, cp, olds, hv, hlc, holds, hol, hcl, hpos, hread⟩ := rows_read g.s hG1 (hsz1.trans hcs.symm) h1
    obtain ⟨ad2, cn, news, hv2, hlc2, hnews, hnl, hcl2, _, hread2⟩ := rows_read g.s hG2 (hsz.trans hcs.symm) h2
    rcases hread2 with h0 | ⟨ax, rfl, hread2⟩
    · omega
    · exact ⟨ad, cp, olds, ax, cn, news, hv, hv2, hlc, holds, hol, hcl, hnews, hnl, hcl2, hpos, hread, hread2 w fun _ => rfl⟩
  -- where it grows
  have growing : ∀ (X : List Nat) (l l2 : List c.El) (ad : Option Addr) (cp : Nat) (olds : List Value) (ax : Addr) (cn : Nat) (news : List Value), a.eval s = .slice ad len cp → a.eval x = .slice (some ax) n cn → len ≤ cp →
        VRels φ (l.flatMap c.enc) olds → olds.length = len * c.size → l.length = len → VRels φ (l2.flatMap c.enc) news → news.length = n * c.size → l2.length = n →
        (0 < cp → ∃ L, φ b = some L ∧ ad = some ⟨L.blk, L.off + lo * L.size, none⟩ ∧ L.size = c.size ∧ lo + cp ≤ L.lim) →
        (len = 0 ∨ ∃ a : Addr, ad = some a ∧ ∀ (w' : World), (∀ k, w'.cell? k = w.cell? k) → ∀ j u, olds[j]? = some u → w'.cell? (a.add j) = some u) →
        (∀ j u, news[j]? = some u → w.cell? (ax.add j) = some u) → cp < len + n → (∀ b ∈ X, (G b).wr = true ∧ b ≠ n0) → φ n0 = none → G n0 = .dead →
        (∀ φ' ψ' w' cv, GI B φ' ψ' (fun b => if b = n0 then .rows c (l ++ l2) false else if b ∈ X then .dead else G b) w' → Ext φ φ' → (∀ b, φ' b ≠ none → φ b ≠ none ∨ (n0 ≤ b ∧ b < n0 + 1)) →
          VRel φ' (.slice c.size n0 0 (l ++ l2).length none) cv → next (a.put o.dst cv) w') → o.wp P a w next Q := by
    intro X l l2 ad cp olds ax cn news hv hv2 hlc holds hol hcl hnews hnl hcl2 hpos hread hread2 hgrow hX hφn hGn hkk
    have hbase : (ad = none ∧ len = 0 ∧ cp = 0) ∨ ∃ a, ad = some a ∧ ∀ j u, olds[j]? = some u → w.cell? (a.add j) = some u := by
      rcases hread with h0 | ⟨a1, rfl, hr⟩
      · cases ad with
        | none =>
          by_cases hcp : 0 < cp
          · obtain ⟨L, _, h, _⟩ := hpos hcp; cases h
          · exact .inl ⟨rfl, h0, by omega⟩
        | some a1 =>
          refine .inr ⟨a1, rfl, fun j u hj => ?_⟩
          have : olds = [] := List.eq_nil_of_length_eq_zero (by rw [hol, h0]; simp)
          rw [this] at hj; simp at hj
      · exact .inr ⟨a1, rfl, hr w fun _ => rfl⟩
    obtain ⟨gg, z, hge, hzs, hrun⟩ := append_grow (ty := o.type) hti hk hkn hz hb1 (w := w) (base := ad) (len := len) (cp := cp) (n := n) (cn := cn) (ax := ax) (olds := olds) (news := news) (by rw [hol, hcs]) (by rw [hnl, hcs]) hn hbig hgrow hbase hread2
    have hexec := exec_append (P := P) (w := w) (a := a) ho (by rw [hv, hv2]; exact hrun)
    unfold Oper.wp
    rw [hexec]
    have hlen : (l ++ l2).length = len + n := by simp [hcl, hcl2]
    have hgi := GI.grown (g := gg) (e := (ti T).elem) (zs := Builtin.zeroCells z.cells (gg - (len + n))) (X := X) g hX hφn hGn hm (flatMap_append' holds hnews) (by rw [hlen]; exact hge) (by omega) (by rw [zeroCells_size, hzs, hlen, hcs])
    refine hkk _ (fun b => if b = n0 then [w.heap.size] else ψ b) _ _ ?_ hgi.2 ?_ ?_
    · have := hgi.1
      simpa using this
    · intro b' hb
      by_cases e : b' = n0
      · subst e; exact .inr ⟨Nat.le_refl _, by omega⟩
      · simp [e] at hb; exact .inl (by simpa using hb)
    · simp only [VRel]
      exact ⟨⟨w.heap.size, 0, c.size, (l ++ l2).length, gg⟩, _, gg, by simp, by rw [hlen], rfl, by simp, by omega, by simp, .inr (by simp), by simp⟩
  cases hp
  · -- without giving up
    rename_i l l2 hl hl2
    obtain ⟨hφn, hGn⟩ := hfr n0 (Nat.le_refl _) (by omega)
    obtain ⟨ad, cp, olds, ax, cn, news, hv, hv2, hlc, holds, hol, hcl, hnews, hnl, hcl2, hpos, hread, hread2⟩ := base l l2 hl hl2
    refine growing [] l l2 ad cp olds ax cn news hv hv2 hlc holds hol hcl hnews hnl hcl2 hpos hread hread2 (hcap rfl ad cp hv) (by simp) hφn hGn fun φ' ψ' w' cv hg he hb hvv => hkk φ' ψ' w' cv ?_ he hb hvv
    have e : (fun b => if b = n0 then Blk.rows c (l ++ l2) false else if b ∈ ([] : List Nat) then Blk.dead else G b) = upd G n0 (.rows c (l ++ l2) false) := by funext b; simp [upd]
    rw [e] at hg; exact hg
  · -- the row is given up
    rename_i l l2 hw hl hl2 hlt
    obtain ⟨hφn, hGn⟩ := hfr n0 (Nat.le_refl _) (by omega)
    have hbn : b ≠ n0 := by omega
    obtain ⟨ad, cp, olds, ax, cn, news, hv, hv2, hlc, holds, hol, hcl, hnews, hnl, hcl2, hpos, hread, hread2⟩ := base l l2 hl hl2
    have e : (fun b' => if b' = n0 then Blk.rows c (l ++ l2) false else if b' ∈ [b] then Blk.dead else G b') = upd (upd G b .dead) n0 (.rows c (l ++ l2) false) := by
      funext b'; simp [upd]
    by_cases hgrow : cp < len + n
    · refine growing [b] l l2 ad cp olds ax cn news hv hv2 hlc holds hol hcl hnews hnl hcl2 hpos hread hread2 hgrow (by simp; exact ⟨hw, hbn⟩) hφn hGn fun φ' ψ' w' cv hg he hb hvv => hkk φ' ψ' w' cv ?_ he hb hvv
      rw [e] at hg; exact hg
    · have hroom : len + n ≤ cp := by omega
      obtain ⟨L, hL, rfl, hLs, hLlim⟩ := hpos (by omega)
      obtain ⟨L', hL', hs1, hc1, hr⟩ := (g.s.rel b).parts (wr_live hw)
      rw [hL] at hL'; injection hL' with hL'; subst hL'
      rcases hr with ⟨h0, _, _⟩ | ⟨hψ, _, arr, e', fz, hh, hlim, hfz, hcell⟩
      · omega
      · have hfit : L.off + lo * L.size + (len + n) * (ti (ti T).elem).size ≤ arr.size := by
          have : (lo + (len + n)) * L.size ≤ L.lim * L.size := Nat.mul_le_mul_right _ (by omega)
          rw [Nat.add_mul] at this
          rw [← hcs, ← hLs]; omega
        obtain ⟨w', hrun, ⟨hsz', hsd⟩, hot, arr', hh', hs', hx'⟩ := append_room (ty := o.type) (cn := cn) (ax := ax) (news := news) hti hk hkn hz (w := w) (blk := L.blk) (off := L.off + lo * L.size) (len := len) (cp := cp) (n := n) (by rw [hnl, hcs]) hroom hh (hfz hw) hfit
          (scals_one (scals_flat c.enc (enc_scal c) l2) hnews) hread2
        have hexec := exec_append (P := P) (w := w) (a := a) ho (by rw [hv, hv2]; exact hrun)
        have hlen : (l ++ l2).length = len + n := by simp [hcl, hcl2]
        have hgi := g.add (X := [b]) (n := n0) (blk := .rows c (l ++ l2) false) (L := ⟨L.blk, L.off + lo * L.size, c.size, (l ++ l2).length, L.lim - lo⟩) (own := [L.blk]) (w' := w') (by simp; exact ⟨hw, hbn⟩) hφn hGn hm rfl (Nat.le_of_eq hsz'.symm) hsd
          (fun k hk hX => hot k (fun ek => hX b (by simp) (by rw [hψ]; simp [ek]))) ?_ (by intro k hk; simp at hk; subst hk; exact .inr ⟨b, by simp, by rw [hψ]; simp⟩)
        · unfold Oper.wp
          rw [hexec]
          refine hkk _ (fun b' => if b' = n0 then [L.blk] else ψ b') w' _ ?_ hgi.2 ?_ ?_
          · rw [← e]; exact hgi.1
          · intro b' hb
            by_cases e : b' = n0
            · subst e; exact .inr ⟨Nat.le_refl _, by omega⟩
            · simp [e] at hb; exact .inl (by simpa using hb)
          · simp only [VRel]
            exact ⟨⟨L.blk, L.off + lo * L.size, c.size, (l ++ l2).length, L.lim - lo⟩, _, cp, by simp, by rw [hlen], rfl, by simp, by omega, by simp; omega, .inr (by simp), by simp⟩
        · refine BRel.of rfl rfl rfl rfl (by show 0 < L.lim - lo; omega) ⟨by show (l ++ l2).length ≤ L.lim - lo; omega, arr', e', fz, hh', ?_, fun _ => hfz hw, fun i cs hi j y hy => ?_⟩
          · show L.off + lo * L.size + (L.lim - lo) * c.size ≤ arr'.size
            rw [hs']
            have : (lo + (L.lim - lo)) * L.size = L.lim * L.size := by congr 1; omega
            rw [Nat.add_mul] at this
            rw [← hLs]; omega
          · simp only [Blk.rowAt] at hi
            cases hxi : (l ++ l2)[i]? with
            | none => simp [hxi] at hi
            | some xx =>
              simp [hxi] at hi; subst hi
              have hj : j < c.size := by rw [← Cd.enc_length c xx]; exact (List.getElem?_eq_some_iff.mp hy).1
              have hext := hgi_ext (n0 := n0) (φ := φ) hφn (L := ⟨L.blk, L.off + lo * L.size, c.size, (l ++ l2).length, L.lim - lo⟩)
              show ∃ v, arr'[L.off + lo * L.size + i * c.size + j]? = some v ∧ _
              rw [hx', ← hcs]
              rcases Nat.lt_or_ge i len with hil | hil
              · have hnot : ¬ (L.off + lo * L.size + len * c.size ≤ L.off + lo * L.size + i * c.size + j) := by
                  have := row_in hil hj; omega
                rw [if_neg (fun h => hnot h.1)]
                rw [List.getElem?_append_left (by omega)] at hxi
                obtain ⟨l0, ro, hG1, rfl⟩ := hl
                obtain ⟨_, hxi'⟩ := cutL_get hxi
                obtain ⟨u, hu, hur⟩ := hcell (lo + i) (c.enc xx) (by rw [hG1]; simp [Blk.rowAt, hxi']) j y hy
                refine ⟨u, ?_, VRel.ext hext y hur⟩
                rw [hLs] at hu ⊢
                rw [show L.off + lo * c.size + i * c.size + j = L.off + (lo + i) * c.size + j by rw [Nat.add_mul]; omega]
                exact hu
              · rw [List.getElem?_append_right (by omega), hcl] at hxi
                have hi2 : i - len < n := by rw [← hcl2]; exact (List.getElem?_eq_some_iff.mp hxi).1
                have e2 : i * c.size = len * c.size + (i - len) * c.size := by rw [← Nat.add_mul]; congr 1; omega
                have hin := row_in hi2 hj
                have e3 : (len + n) * c.size = len * c.size + n * c.size := Nat.add_mul _ _ _
                rw [if_pos ⟨by omega, by omega⟩]
                obtain ⟨u, hu, hur⟩ := rows_cells hnews hxi hy
                refine ⟨u, ?_, VRel.ext hext y hur⟩
                rw [show L.off + lo * L.size + i * c.size + j - (L.off + lo * L.size + len * c.size) = (i - len) * c.size + j by omega]
                exact hu
end Go.Proofs.Ytfoaihjkmfhaoaa.AB
