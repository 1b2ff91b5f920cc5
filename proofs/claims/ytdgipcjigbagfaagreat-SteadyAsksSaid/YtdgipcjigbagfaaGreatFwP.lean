/- Primitive steps on stores that are lists. -/
import Derived.Test.YtdgipcjigbagfaaGreatFwO
namespace Go.Proofs.YtdgipcjigbagfaaGreat.AB
set_option linter.unusedSimpArgs false
set_option linter.unusedVariables false
variable {P : Program}

theorem getB_past : ∀ (σ : List Blk) (b : Nat), σ.length ≤ b → getB σ b = .dead
  | [], _, _ => rfl
  | _ :: _, 0, h => by simp at h
  | _ :: σ, b + 1, h => getB_past σ b (by simpa using h)

theorem lt_of_live {σ : List Blk} {b : Nat} (h : (getB σ b).live = true) : b < σ.length := by
  rcases Nat.lt_or_ge b σ.length with hl | hl
  · exact hl
  · rw [getB_past σ b hl] at h; cases h

theorem setB_length : ∀ (σ : List Blk) (b : Nat) (x : Blk), (setB σ b x).length = σ.length
  | [], _, _ => rfl
  | _ :: _, 0, _ => rfl
  | _ :: σ, b + 1, x => by simp [setB, setB_length σ b x]

theorem getB_setB : ∀ (σ : List Blk) (b : Nat) (x : Blk), b < σ.length → getB (setB σ b x) = upd (getB σ) b x
  | [], b, x, h => by simp at h
  | y :: σ, 0, x, _ => by
    funext c
    cases c with
    | zero => simp [setB, getB, upd]
    | succ c => simp [setB, getB, upd]
  | y :: σ, b + 1, x, h => by
    funext c
    cases c with
    | zero => simp [setB, getB, upd]
    | succ c =>
      have := congrFun (getB_setB σ b x (by simpa using h)) c
      simp only [setB, getB, this, upd]
      simp

theorem getB_append : ∀ (σ τ : List Blk) (b : Nat), getB (σ ++ τ) b = if b < σ.length then getB σ b else getB τ (b - σ.length)
  | [], τ, b => by simp
  | y :: σ, τ, 0 => by simp [getB]
  | y :: σ, τ, b + 1 => by
    simp only [List.cons_append, getB, getB_append σ τ b, List.length_cons]
    by_cases h : b < σ.length
    · simp [h]
    · simp [h]

theorem getB_snoc (σ : List Blk) (x : Blk) : getB (σ ++ [x]) = upd (getB σ) σ.length x := by
  funext b
  rw [getB_append]
  unfold upd
  by_cases h : b < σ.length
  · rw [if_pos h, if_neg (by omega)]
  · rw [if_neg h]
    by_cases e : b = σ.length
    · subst e; simp [getB]
    · rw [if_neg e, getB_past σ b (by omega)]
      obtain ⟨k, hk⟩ : ∃ k, b - σ.length = k + 1 := ⟨b - σ.length - 1, by omega⟩
      rw [hk]; rfl

theorem openRow_some {R : Type} {b : Blk} {i : Nat} {k : List AVal → Option R} {r : R} (h : openRow b i k = some r) : ∃ cs, b.rowAt i = some cs ∧ k cs = some r := by
  unfold openRow at h
  split at h
  · cases h
  · rename_i cs
    have hc := (of_cond h).1; replace h := (of_cond h).2
    exact ⟨cs, by simp [Blk.rowAt, beq_nat hc], h⟩
  · rename_i c l ro
    split at h
    · rename_i x hx
      have key : ∃ cs, cs = c.enc x ∧ k cs = some r := by
        cases c <;> simp only [Cd.open] at h
        case box t c => cases x <;> exact ⟨_, rfl, h⟩
        all_goals exact ⟨_, rfl, h⟩
      obtain ⟨cs, rfl, hk⟩ := key
      exact ⟨_, by simp [Blk.rowAt, hx], hk⟩
    · cases h
  · cases h
  · split at h
    · rename_i v hv
      exact ⟨[v], by simp [Blk.rowAt, hv], h⟩
    · cases h

theorem rows_set {c : Cd} {l : List c.El} {ro : Bool} {i : Nat} {x : c.El} (hi : i < l.length) : SetRow (.rows c l ro) i (c.enc x) (.rows c (l.set i x) ro) := by
  refine ⟨rfl, by simp [Blk.cnt], rfl, rfl, by simp [Blk.rowAt, hi], fun k hk => ?_⟩
  simp only [Blk.rowAt]
  rw [List.getElem?_set]
  simp [Ne.symm hk]

theorem setRow_some {R : Type} {b : Blk} {i j : Nat} {cs : List AVal} {k : Blk → Option R} {r : R} (h : setRow b i j cs k = some r) :
    ∃ blk' old, k blk' = some r ∧ b.rowAt i = some old ∧ j + cs.length ≤ old.length ∧ b.wr = true ∧ SetRow b i (old.take j ++ cs ++ old.drop (j + cs.length)) blk' := by
  unfold setRow at h
  split at h
  · cases h
  · cases h
  · cases h
  · rename_i old
    have hc := (of_cond h).1; replace h := (of_cond h).2
    simp only [Bool.and_eq_true] at hc
    have hi := beq_nat hc.1
    have hle := Nat.le_of_ble_eq_true hc.2
    subst hi
    refine ⟨_, old, h, by simp [Blk.rowAt], hle, rfl, by simp [Blk.size]; omega, rfl, rfl, rfl, by simp [Blk.rowAt], fun k hk => by simp [Blk.rowAt, hk]⟩
  · rename_i c l ro
    have hro := (of_cond' h).1; replace h := (of_cond' h).2
    subst hro
    cases hb : (Nat.beq cs.length c.size && Nat.beq j 0) with
    | true =>
      rw [hb] at h; simp only [cond_true] at h
      simp only [Bool.and_eq_true] at hb
      have hj := beq_nat hb.2
      have hl := beq_nat hb.1
      subst hj
      split at h
      · rename_i x hx
        have hc := (of_cond h).1; replace h := (of_cond h).2
        have hi := blt_nat hc
        have hold := List.getElem?_eq_getElem hi
        refine ⟨_, c.enc l[i], h, by simp [Blk.rowAt, hold], by rw [Cd.enc_length]; omega, rfl, ?_⟩
        have e : (c.enc l[i]).take 0 ++ cs ++ (c.enc l[i]).drop (0 + cs.length) = c.enc x := by
          rw [Cd.dec_enc c cs x hx]
          simp only [List.take_zero, List.nil_append, Nat.zero_add]
          rw [List.drop_of_length_le (by rw [Cd.enc_length]; omega)]; simp
        rw [e]
        exact rows_set hi
      · cases h
    | false =>
      rw [hb] at h; simp only [cond_false] at h
      split at h
      · rename_i y hy
        have hi := (List.getElem?_eq_some_iff.mp hy).1
        have key : ∃ old, old = c.enc y ∧ (bif Nat.ble (j + cs.length) old.length then (match c.dec (old.take j ++ cs ++ old.drop (j + cs.length)) with
            | some x => k (.rows c (l.set i x) false) | none => none) else none) = some r := by
          cases c <;> simp only [Cd.open] at h
          case box t c => cases y <;> exact ⟨_, rfl, h⟩
          all_goals exact ⟨_, rfl, h⟩
        obtain ⟨old, rfl, h2⟩ := key
        have hc := (of_cond h2).1; replace h2 := (of_cond h2).2
        split at h2
        · rename_i x hx
          refine ⟨_, c.enc y, h2, by simp [Blk.rowAt, hy], Nat.le_of_ble_eq_true hc, rfl, ?_⟩
          rw [← Cd.dec_enc c _ x hx]
          exact rows_set hi
        · cases h2
      · cases h

theorem castRows_some {c d : Cd} {l : List c.El} {l' : List d.El} (h : castRows c d l = some l') : ∃ e : c = d, l' = e ▸ l := by
  unfold castRows at h
  split at h
  · rename_i e; injection h with h; exact ⟨e, h.symm⟩
  · cases h

theorem rowsOf_some {c : Cd} {σ : List Blk} {x : Option (Nat × Nat × Nat)} {l : List c.El} (h : rowsOf c σ x = some l) : RowsAre c (getB σ) x l := by
  unfold rowsOf at h
  split at h
  · injection h with h; exact h.symm
  · rename_i b lo n
    split at h
    · rename_i d l0 ro hb
      split at h
      · rename_i l1 hc
        injection h with h; subst h
        obtain ⟨e, rfl⟩ := castRows_some hc
        subst e
        exact ⟨l0, ro, hb, rfl⟩
      · cases h
    · cases h

theorem memB_spec : ∀ (b : Nat) (l : List Nat), memB b l = true ↔ b ∈ l
  | b, [] => by simp [memB]
  | b, x :: l => by
    simp only [memB, Bool.or_eq_true, memB_spec b l, List.mem_cons]
    constructor
    · rintro (h | h)
      · exact .inl (beq_nat h).symm
      · exact .inr h
    · rintro (rfl | h)
      · exact .inl (Nat.beq_refl _)
      · exact .inr h

theorem reach_spec (σ : List Blk) : ∀ (n : Nat) (todo acc : List Nat), acc.Nodup → (∀ b ∈ acc, b < σ.length) → (reach σ n todo acc).Nodup ∧ ∀ b ∈ reach σ n todo acc, b < σ.length
  | 0, todo, acc, h1, h2 => ⟨h1, h2⟩
  | n + 1, [], acc, h1, h2 => ⟨h1, h2⟩
  | n + 1, b :: todo, acc, h1, h2 => by
    simp only [reach]
    cases hc : (memB b acc || Nat.ble σ.length b) with
    | true => simp only [cond_true]; exact reach_spec σ n todo acc h1 h2
    | false =>
      simp only [cond_false]
      simp only [Bool.or_eq_false_iff] at hc
      have hb : b ∉ acc := fun h => by rw [(memB_spec b acc).mpr h] at hc; cases hc.1
      have hlt : b < σ.length := by
        rcases Nat.lt_or_ge b σ.length with h | h
        · exact h
        · rw [Nat.ble_eq_true_of_le h] at hc; cases hc.2
      refine reach_spec σ n _ _ ?_ ?_
      · rw [List.nodup_append]
        refine ⟨h1, by simp, fun x hx y hy => ?_⟩
        simp at hy; subst hy
        intro e; subst e; exact hb hx
      · intro x hx
        simp at hx
        rcases hx with h | h
        · exact h2 x h
        · subst h; exact hlt

theorem getB_mapR (ρ : Nat → Option Nat) : ∀ (l : List Blk) (j : Nat), getB (l.map (renB ρ)) j = renB ρ (getB l j)
  | [], j => by simp [getB, renB]
  | x :: l, 0 => by simp [getB]
  | x :: l, j + 1 => by simp [getB, getB_mapR ρ l j]

/-- the callee's memory put back, one by one -/
theorem splice_get (ρ : Nat → Option Nat) : ∀ (ids : List Nat) (σ σ' : List Blk), ids.Nodup → (∀ b ∈ ids, b < σ.length) → ids.length ≤ σ'.length →
    (splice ρ ids σ σ').length = σ.length + (σ'.length - ids.length) ∧
    ∀ b, getB (splice ρ ids σ σ') b = match idx b ids 0 with
      | some j => renB ρ (getB σ' j)
      | none => if σ.length ≤ b ∧ b < σ.length + (σ'.length - ids.length) then renB ρ (getB σ' (b - σ.length + ids.length)) else getB σ b
  | [], σ, σ', _, _, _ => by
    simp only [splice, idx]
    refine ⟨by simp, fun b => ?_⟩
    rw [getB_append]
    by_cases h : b < σ.length
    · rw [if_pos h, if_neg (by omega)]
    · rw [if_neg h, getB_mapR]
      by_cases h2 : b < σ.length + σ'.length
      · rw [if_pos (by simp; omega)]; simp
      · rw [if_neg (by simp; omega), getB_past σ' _ (by omega), getB_past σ b (by omega)]; rfl
  | b0 :: ids, σ, [], _, _, h => by simp at h
  | b0 :: ids, σ, x :: σ', hn, hb, hl => by
    simp only [splice]
    have hn' := List.nodup_cons.mp hn
    obtain ⟨h1, h2⟩ := splice_get ρ ids (setB σ b0 (renB ρ x)) σ' hn'.2 (fun b h => by rw [setB_length]; exact hb b (by simp [h])) (by simpa using hl)
    refine ⟨by rw [h1, setB_length]; simp, fun b => ?_⟩
    rw [h2 b, setB_length, getB_setB σ b0 _ (hb b0 (by simp))]
    have hshift : ∀ (l : List Nat) (k : Nat), idx b l (k + 1) = (idx b l k).map (· + 1) := by
      intro l
      induction l with
      | nil => intro k; rfl
      | cons y l ih =>
        intro k
        simp only [idx]
        cases Nat.beq y b <;> simp [ih]
    simp only [idx]
    cases he : Nat.beq b0 b with
    | true =>
      have e := beq_nat he
      subst e
      simp only [cond_true]
      have hni : idx b0 ids 0 = none := by
        cases hi : idx b0 ids 0 with
        | none => rfl
        | some j => exact absurd (List.mem_of_getElem? (idx_get hi)) hn'.1
      rw [hni]
      have := hb b0 (by simp)
      simp only [List.length_cons]
      rw [if_neg (by omega)]
      simp [upd, getB]
    | false =>
      have hne : b ≠ b0 := by intro e; subst e; rw [Nat.beq_refl] at he; cases he
      simp only [cond_false, hshift]
      cases hi : idx b ids 0 with
      | some j => simp [getB]
      | none =>
        simp only [Option.map_none, List.length_cons, upd, hne, if_false]
        by_cases h : σ.length ≤ b ∧ b < σ.length + (σ'.length - ids.length)
        · rw [if_pos h, if_pos (by omega)]
          rw [show b - σ.length + (ids.length + 1) = (b - σ.length + ids.length) + 1 by omega]; rfl
        · rw [if_neg h, if_neg (by omega)]

theorem callG_frame {args : List AVal} {f : Nat} {G : Nat → Blk} {n : Nat} {ids : List Nat} {v' : AVal} {σ' : List Blk} (hn : ids.Nodup)
    (hac : ACalls P f args (ids.map fun b => renB (fun x => idx x ids 0) (G b)) v' σ') {b : Nat} (hb : b ∈ ids) (hw : (G b).wr = false) : callG G ids n σ' b = G b := by
  obtain ⟨j, hj, hjl⟩ := idx_mem hb
  have hgb : getB (ids.map fun b => renB (fun x => idx x ids 0) (G b)) j = renB (fun x => idx x ids 0) (G b) := by rw [getB_map, idx_get hj]
  have := hac.2.1 j (by simpa using hjl) (by rw [hgb, renB_wr]; exact hw)
  simp only [callG, hj, this, hgb]
  cases hG : G b with
  | dead => rfl
  | var cs => rw [hG] at hw; cases hw
  | fam t c l f => rw [hG] at hw; cases hw
  | cells cs => rw [hG] at hw; cases hw
  | rows c l ro => rfl


theorem isIn_back {ids : List Nat} (n : Nat) {b : Nat} (h : isIn b ids = true) : ∃ j, idx b ids 0 = some j ∧ backId ids n j = some b := by
  unfold isIn at h
  cases hi : idx b ids 0 with
  | none => rw [hi] at h; cases h
  | some j => exact ⟨j, rfl, by simp [backId, idx_get hi]⟩

mutual
theorem keptV_back {ids : List Nat} (n : Nat) : ∀ (v : AVal), keptV ids v = true → renV (backId ids n) (renV (fun x => idx x ids 0) v) = v
  | .undef, _ => rfl
  | .bool _, _ => rfl
  | .int _ _, _ => rfl
  | .str _, _ => rfl
  | .nilp, _ => rfl
  | .ptr b i j, h => by
    obtain ⟨q, h1, h2⟩ := isIn_back n (by simpa [keptV] using h)
    simp [renV, h1, h2]
  | .fptr b i j, h => by
    obtain ⟨q, h1, h2⟩ := isIn_back n (by simpa [keptV] using h)
    simp [renV, h1, h2]
  | .nils, _ => rfl
  | .slice sz b lo len none, h => by
    obtain ⟨q, h1, h2⟩ := isIn_back n (by simpa [keptV] using h)
    simp [renV, h1, h2]
  | .slice sz b lo len (some c), h => by simp [keptV] at h
  | .nili, _ => rfl
  | .iface t v, h => by simp only [keptV] at h; simp only [renV, keptV_back n v h]
  | .nilf, _ => rfl
  | .func f cs, h => by simp only [keptV] at h; simp only [renV, keptVs_back n cs h]
  | .agg cs, h => by simp only [keptV] at h; simp only [renV, keptVs_back n cs h]
  | .tuple cs, h => by simp only [keptV] at h; simp only [renV, keptVs_back n cs h]
theorem keptVs_back {ids : List Nat} (n : Nat) : ∀ (vs : List AVal), keptVs ids vs = true → renVs (backId ids n) (renVs (fun x => idx x ids 0) vs) = vs
  | [], _ => rfl
  | v :: vs, h => by
    simp only [keptVs, Bool.and_eq_true] at h
    simp only [renVs, keptV_back n v h.1, keptVs_back n vs h.2]
end

theorem keptB_back {ids : List Nat} {n : Nat} (hn : ids.Nodup) {b : Blk} (h : keptB ids b = true) : renB (backId ids n) (renB (fun x => idx x ids 0) b) = b := by
  cases b with
  | dead => rfl
  | var cs => simp only [keptB] at h; simp only [renB, keptVs_back n cs h]
  | cells cs => simp only [keptB] at h; simp only [renB, keptVs_back n cs h]
  | fam t c l f => rfl
  | rows c l ro => rfl

theorem keepsAll_mem {σ : List Blk} {ids : List Nat} : ∀ {r : List Nat}, keepsAll σ ids r = true → ∀ b ∈ r, keptB ids (getB σ b) = true
  | [], _, b, hb => by cases hb
  | x :: r, h, b, hb => by
    simp only [keepsAll, Bool.and_eq_true] at h
    simp at hb
    rcases hb with hb | hb
    · subst hb; exact h.1
    · exact keepsAll_mem h.2 b hb

def EnvOk (P : Program) (Γ : Env) : Prop :=
  ∀ (R : Type) (f : Nat) (args : List AVal) (σ : List Blk) (k : AVal → List Blk → Option R) (r : R), Γ R f args σ k = some r → ∃ v σ' σk, k v σk = some r ∧ (σk = σ' ∨ (σk = [] ∧ σ' = σ)) ∧ Callable P f ∧ ACalls P f args σ v σ'

theorem envNone_ok : EnvOk P Env.none := by
  intro R f args σ k r h; cases h

theorem cellD_spec {t b : Nat} {cs : List AVal} {x : Option Nat} (h : cellD t b cs = some x) : cellA t b x = cs := by
  unfold cellD at h
  split at h
  · injection h with h; subst h; rfl
  · have hc := (of_cond h).1; replace h := (of_cond h).2
    simp only [Bool.and_eq_true] at hc
    have h1 := Nat.eq_of_beq_eq_true hc.1
    have h2 := Nat.eq_of_beq_eq_true hc.2
    subst h1; subst h2
    injection h with h; subst h; rfl
  · cases h

theorem open_some {R : Type} {c : Cd} {x : c.El} {k : List AVal → Option R} {r : R} (h : c.open x k = some r) : k (c.enc x) = some r := by
  cases c <;> try exact h
  case box t c => cases x <;> exact h

theorem famOf_some {σ : List Blk} {y : Option (Nat × Nat × Nat)} {b t : Nat} {c : Cd} {l : List (Option Nat)} {f : List c.El} (h : famOf σ y = some (b, t, ⟨c, l, f⟩)) :
    ∃ lo n l0, y = some (b, lo, n) ∧ getB σ b = .fam t c l0 f ∧ l = cutL l0 lo n := by
  unfold famOf at h
  split at h
  · cases h
  · rename_i b' lo n
    split at h
    · rename_i t' c' l' f' hG
      injection h with h
      injection h with h1 h
      injection h with h2 h
      injection h with h3 h4 h5
      subst h1; subst h2; subst h3; subst h4
      have := eq_of_heq h5; subst this
      exact ⟨lo, n, l', rfl, hG, rfl⟩
    · cases h

theorem sameV_eq {x y : AVal} (h : sameV x y = true) : x = y := by
  unfold sameV at h
  split at h
  · simp only [Bool.and_eq_true] at h
    rw [beq_nat h.1.1, beq_nat h.1.2, beq_nat h.2]
  · simp only [Bool.and_eq_true] at h
    rw [beq_nat h.1, beq_nat h.2.1.1, beq_nat h.2.1.2, beq_nat h.2.2]
  · rfl
  · cases h
theorem sameVs_eq : ∀ {xs ys : List AVal}, sameVs xs ys = true → xs = ys
  | [], [], _ => rfl
  | [], _ :: _, h => by cases h
  | _ :: _, [], h => by cases h
  | x :: xs, y :: ys, h => by
    simp only [sameVs, Bool.and_eq_true] at h
    rw [sameV_eq h.1, sameVs_eq h.2]
theorem sameB_eq {a b : Blk} (h : sameB a b = true) : a = b := by
  unfold sameB at h
  split at h
  · rw [sameVs_eq h]
  · rw [sameVs_eq h]
  · cases h

theorem runPrim_sound {Γ : Env} (hΓ : EnvOk P Γ) {R : Type} {p : Prim} {σ : List Blk} {k : AVal → List Blk → List Nat → List Nat → Option R} {r : R} (h : runPrim Γ p σ k = some r) :
    ∃ v σ' rd wr nn, k v σ' rd wr = some r ∧ PStep P p (getB σ) σ.length v (getB σ') rd wr nn ∧ σ'.length = σ.length + nn := by
  unfold runPrim at h
  split at h
  · exact ⟨_, _, _, _, 0, h, .ret _ _ _, rfl⟩
  · rename_i b i f
    split at h
    · rename_i t c l fm hG
      split at h
      · rename_i x hx
        cases x with
        | none =>
          simp only at h
          split at h
          · rename_i v hv
            exact ⟨_, _, _, _, 0, h, .rdS b i f _ _ t c l fm none v hG hx hv, rfl⟩
          · cases h
        | some q =>
          simp only at h
          split at h
          · rename_i v hv
            exact ⟨_, _, _, _, 0, h, .rdS b i f _ _ t c l fm (some q) v hG hx hv, rfl⟩
          · cases h
      · cases h
    · obtain ⟨cs, hcs, h⟩ := openRow_some h
      split at h
      · rename_i v hv
        exact ⟨_, _, _, _, 0, h, .rd b i f _ _ cs v hcs hv, rfl⟩
      · cases h
  · rename_i b i j cs
    split at h
    · rename_i t c l fm hG
      have hc := (of_cond h).1; replace h := (of_cond h).2
      simp only [Bool.and_eq_true] at hc
      have hj := Nat.eq_of_beq_eq_true hc.1
      subst hj
      split at h
      · rename_i x hx
        refine ⟨_, _, _, _, 0, h, ?_, by rw [setB_length]; rfl⟩
        rw [getB_setB σ b _ (lt_of_live (by rw [hG]; rfl))]
        exact .wrS b i cs _ _ t c l fm x hG (blt_nat hc.2) (cellD_spec hx)
      · cases h
    · obtain ⟨blk', old, hk, hrow, hle, hw, hset⟩ := setRow_some h
      refine ⟨_, _, _, _, 0, hk, ?_, by rw [setB_length]; rfl⟩
      rw [getB_setB σ b blk' (lt_of_live (wr_live hw))]
      exact .wr b i j cs _ _ old blk' hrow hle hw hset
  · rename_i b i f
    split at h
    · rename_i t c l fm hG
      split at h
      · rename_i x hx
        have h := open_some h
        split at h
        · rename_i v hv
          exact ⟨_, _, _, _, 0, h, .rdF b i f _ _ t c l fm x v hG hx hv, rfl⟩
        · cases h
      · cases h
    · cases h
  · rename_i b i j cs
    split at h
    · rename_i t c l fm hG
      split at h
      · rename_i y hy
        have h := open_some h
        have hc := (of_cond h).1; replace h := (of_cond h).2
        split at h
        · rename_i x hx
          refine ⟨_, _, _, _, 0, h, ?_, by rw [setB_length]; rfl⟩
          rw [getB_setB σ b _ (lt_of_live (by rw [hG]; rfl))]
          have hle := Nat.le_of_ble_eq_true hc
          rw [Cd.enc_length] at hle
          exact .wrF b i j cs _ _ t c l fm y x hG hy hle (Cd.dec_enc c _ x hx)
        · cases h
      · cases h
    · cases h
  · rename_i t c b
    split at h
    · rename_i cs hG
      split at h
      · rename_i x hx
        refine ⟨_, _, _, _, 1, h, ?_, by simp [setB_length]⟩
        have hlt := lt_of_live (σ := σ) (b := b) (by rw [hG]; rfl)
        have e := getB_snoc (setB σ b .dead) (.fam t c [some 0] [x])
        rw [setB_length, getB_setB σ b .dead hlt] at e
        rw [e]
        exact .famNew t c b _ _ cs x hG (Cd.dec_enc c _ x hx) hlt
      · cases h
    · cases h
  · rename_i blk v
    have hw := (of_cond h).1; replace h := (of_cond h).2
    refine ⟨_, _, _, _, 1, h, ?_, by simp⟩
    rw [getB_snoc]
    exact .new blk v _ _ hw
  · rename_i c x kill y
    split at h
    · rename_i b2 t2 c2 l2 f2 hfo
      obtain ⟨lo2, m, l20, rfl, hG2, rfl⟩ := famOf_some hfo
      have hlt2 := lt_of_live (σ := σ) (b := b2) (by rw [hG2]; rfl)
      split at h
      · refine ⟨_, _, _, _, 1, h, ?_, by simp [setB_length]⟩
        have e := getB_snoc (setB σ b2 .dead) (.fam t2 c2 (cutL l20 lo2 m) f2)
        rw [setB_length, getB_setB σ b2 .dead hlt2] at e
        rw [e]
        exact .appF0 c kill b2 lo2 m _ _ t2 c2 l20 f2 hG2 hlt2
      · rename_i b lo len
        split at h
        · rename_i t d l f hG1
          have hc := (of_cond h).1; replace h := (of_cond h).2
          simp only [Bool.and_eq_true, Bool.not_eq_true'] at hc
          have ht := Nat.eq_of_beq_eq_true hc.1
          subst ht
          have hbb : b ≠ b2 := by intro e; subst e; have := hc.2; rw [Nat.beq_refl] at this; cases this
          split at h
          · rename_i f' hcast
            unfold castRows at hcast
            split at hcast
            · rename_i hd; subst hd
              injection hcast with hcast; subst hcast
              have hlt1 := lt_of_live (σ := σ) (b := b) (by rw [hG1]; rfl)
              refine ⟨_, _, _, _, 1, h, ?_, by simp [setB_length]⟩
              have e := getB_snoc (setB (setB σ b .dead) b2 .dead) (.fam t d (cutL l lo len ++ (cutL l20 lo2 m).map (shiftF f.length)) (f ++ f2))
              rw [setB_length, setB_length, getB_setB _ b2 .dead (by rw [setB_length]; exact hlt2), getB_setB σ b .dead hlt1] at e
              rw [e]
              exact .appF c kill b lo len b2 lo2 m _ _ t d l f l20 f2 hG1 hG2 hbb hlt1 hlt2
            · cases hcast
          · cases h
        · cases h
    split at h
    · rename_i l l2 hl hl2
      cases kill with
      | true =>
        simp only [cond_true] at h
        split at h
        · rename_i b lo n
          have hw := (of_cond h).1; replace h := (of_cond h).2
          refine ⟨_, _, _, _, 1, h, ?_, by simp [setB_length]⟩
          have hlt := lt_of_live (wr_live hw)
          have e := getB_snoc (setB σ b .dead) (.rows c (l ++ l2) false)
          rw [setB_length, getB_setB σ b .dead hlt] at e
          rw [e]
          have := PStep.appk (P := P) c b lo n y (getB σ) σ.length l l2 (rowsOf_some hl) (rowsOf_some hl2) hw hlt
          cases y with
          | none => exact this
          | some y => obtain ⟨y1, y2, y3⟩ := y; exact this
        · cases h
      | false =>
        simp only [cond_false] at h
        refine ⟨_, _, _, _, 1, h, ?_, by simp⟩
        rw [getB_snoc]
        have := PStep.app (P := P) c x y (getB σ) σ.length l l2 (rowsOf_some hl) (rowsOf_some hl2)
        cases x with
        | none => cases y with
          | none => exact this
          | some y => obtain ⟨y1, y2, y3⟩ := y; exact this
        | some x =>
          obtain ⟨x1, x2, x3⟩ := x
          cases y with
          | none => exact this
          | some y => obtain ⟨y1, y2, y3⟩ := y; exact this
    · cases h
  · rename_i b lo n cs
    split at h
    · rename_i t c l fm hG
      split at h
      · have hc := (of_cond h).1; replace h := (of_cond h).2
        refine ⟨_, _, _, _, 0, h, ?_, by rw [setB_length]; rfl⟩
        rw [getB_setB σ b _ (lt_of_live (by rw [hG]; rfl))]
        exact .fillS b lo n _ _ _ t c l fm hG rfl (Nat.le_of_ble_eq_true hc)
      · cases h
    · rename_i c l ro hb
      have hro := (of_cond' h).1; replace h := (of_cond' h).2
      subst hro
      split at h
      · rename_i x hx
        have hc := (of_cond h).1; replace h := (of_cond h).2
        refine ⟨_, _, _, _, 0, h, ?_, by rw [setB_length]; rfl⟩
        rw [getB_setB σ b _ (lt_of_live (by rw [hb]; rfl))]
        exact .fill b lo n cs c l x _ _ hb (Cd.dec_enc c cs x hx) (Nat.le_of_ble_eq_true hc)
      · cases h
    · cases h
  · rename_i f args
    obtain ⟨v, σ', σk, hk, hor, hcall, hac⟩ := hΓ _ _ _ _ _ _ h
    obtain ⟨hnd, hlt⟩ := reach_spec σ 4096 (ptrsVs args) [] (by simp) (by simp)
    generalize hids : reach σ 4096 (ptrsVs args) [] = ids at *
    have hlen : ids.length ≤ σ'.length := by
      have := hac.1; simpa [subStore] using this
    have pure : σk = [] → σ' = subStore σ ids → ∃ v σ' rd wr nn, k v σ' rd wr = some r ∧ PStep P (.call f args) (getB σ) σ.length v (getB σ') rd wr nn ∧ σ'.length = σ.length + nn := by
      intro e1 e2
      subst e1; subst e2
      simp only at hk
      have hkp := (of_cond hk).1; replace hk := (of_cond hk).2
      refine ⟨_, _, _, _, 0, hk, ?_, by simp⟩
      have hsl : (subStore σ ids).length = ids.length := by simp [subStore]
      have hcg : ∀ b ∈ ids, callG (getB σ) ids σ.length (subStore σ ids) b = getB σ b := by
        intro b hb
        obtain ⟨j, hj, _⟩ := idx_mem hb
        simp only [callG, hj, subStore, getB_map, idx_get hj]
        exact keptB_back hnd (keepsAll_mem hkp b hb)
      have e : callG (getB σ) ids σ.length (subStore σ ids) = getB σ := by
        funext b
        by_cases hb : b ∈ ids
        · exact hcg b hb
        · have hx : idx b ids 0 = none := by
            cases h : idx b ids 0 with
            | none => rfl
            | some j => exact absurd (List.mem_of_getElem? (idx_get h)) hb
          simp only [callG, hx, hsl, Nat.sub_self]
          rw [if_neg (by omega)]
      have := PStep.call (P := P) f args (getB σ) σ.length ids v (subStore σ ids) [] hnd hlt hcall hac (by simp) (fun b hb _ => hcg b hb)
      rw [e] at this
      simpa [hsl] using this
    cases hσk : σk with
    | nil =>
      rcases hor with h1 | ⟨h1, h2⟩
      · -- nothing comes back: nothing went in
        have h0 : σ' = [] := by rw [← h1, hσk]
        have hid : ids = [] := List.eq_nil_of_length_eq_zero (by rw [h0] at hlen; simpa using hlen)
        exact pure hσk (by rw [h0, hid]; rfl)
      · exact pure hσk h2
    | cons b' σ'' =>
      have h1 : σk = σ' := by
        rcases hor with h | ⟨h, _⟩
        · exact h
        · rw [hσk] at h; cases h
      rw [hσk] at h1
      subst h1
      rw [hσk] at hk
      simp only at hk
      obtain ⟨h1, h2⟩ := splice_get (backId ids σ.length) ids σ (b' :: σ'') hnd hlt hlen
      refine ⟨_, _, _, _, _, hk, ?_, h1⟩
      have e : getB (splice (backId ids σ.length) ids σ (b' :: σ'')) = callG (getB σ) ids σ.length (b' :: σ'') := by
        funext b; rw [h2 b]; rfl
      rw [e]
      exact .call f args (getB σ) σ.length _ v (b' :: σ'') _ hnd hlt hcall hac (fun b hb => by
        obtain ⟨h1, h2⟩ := List.mem_filter.mp hb
        simp only [Bool.and_eq_true] at h2
        exact ⟨h1, h2.1⟩) (fun b hb hb' => by
        cases hw : (getB σ b).wr with
        | false => exact callG_frame hnd hac hb hw
        | true =>
          cases hs : sameB (getB σ b) (getB (splice (backId ids σ.length) ids σ (b' :: σ'')) b) with
          | true =>
            have := sameB_eq hs
            rw [← e]; exact this.symm
          | false => exact absurd (List.mem_filter.mpr ⟨hb, by rw [hw, ← e, hs]; rfl⟩) hb')
end Go.Proofs.YtdgipcjigbagfaaGreat.AB
