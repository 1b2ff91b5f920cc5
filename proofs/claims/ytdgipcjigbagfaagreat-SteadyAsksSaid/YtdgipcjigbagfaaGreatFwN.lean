/- All operations together; primitive steps on stores that are lists. -/
import Derived.Test.YtdgipcjigbagfaaGreatFwM
namespace Go.Proofs.YtdgipcjigbagfaaGreat.AB
set_option linter.unusedSimpArgs false
set_option linter.unusedVariables false
variable {P : Program} {ti : Nat → TyI} {o : Oper} {ρ : Operand → AVal}

theorem nice_of_dec {c : Cd} {a : AVal} {x : c.El} (h : c.dec (cellsOf a) = some x) (hp : 0 < c.size) : a ≠ .undef ∧ ∀ vs, a ≠ .tuple vs := by
  have he := Cd.dec_enc c _ x h
  constructor
  · rintro rfl
    have hs := enc_scal c x
    rw [he] at hs; simp [cellsOf, scals, scal] at hs
  · rintro vs rfl
    have hs := enc_scal c x
    rw [he] at hs; simp [cellsOf, scals, scal] at hs

theorem nice_of_decAll {c : Cd} (hp : 0 < c.size) : ∀ (q : List (Nat × Operand)) (l : List c.El), decAll c (q.map fun p => cellsOf (ρ p.2)) = some l → ∀ p ∈ q, ρ p.2 ≠ .undef ∧ ∀ vs, ρ p.2 ≠ .tuple vs
  | [], l, _, p, h => by simp at h
  | q0 :: q, l, hd, p, h => by
    simp only [List.map_cons, decAll] at hd
    split at hd
    · rename_i a l' ha hl'
      simp at h
      rcases h with rfl | h
      · exact nice_of_dec ha hp
      · exact nice_of_decAll hp q l' hl' p h
    · cases hd

theorem niceA_spec {a : AVal} (h : niceA a = true) : a ≠ .undef ∧ ∀ vs, a ≠ .tuple vs := by
  constructor
  · rintro rfl; cases h
  · rintro vs rfl; cases h

theorem list_two {α : Type} {l : Array α} {a b : α} (h : l.toList = [a, b]) : l = #[a, b] := by
  apply Array.ext'; simpa using h
theorem list_one {α : Type} {l : Array α} {a : α} (h : l.toList = [a]) : l = #[a] := by
  apply Array.ext'; simpa using h
theorem map_two {l : List Operand} {x y : AVal} (h : l.map ρ = [x, y]) : ∃ a b, l = [a, b] ∧ ρ a = x ∧ ρ b = y := by
  cases l with
  | nil => simp at h
  | cons a l => cases l with
    | nil => simp at h
    | cons b l => cases l with
      | nil => simp at h; exact ⟨a, b, rfl, h.1, h.2⟩
      | cons c l => simp at h
theorem map_one {l : List Operand} {x : AVal} (h : l.map ρ = [x]) : ∃ a, l = [a] ∧ ρ a = x := by
  cases l with
  | nil => simp at h
  | cons a l => cases l with
    | nil => simp at h; exact ⟨a, rfl, h⟩
    | cons c l => simp at h

theorem beq_nat {a b : Nat} (h : Nat.beq a b = true) : a = b := Nat.eq_of_beq_eq_true h
theorem blt_nat {a b : Nat} (h : Nat.blt a b = true) : a < b := Nat.le_of_ble_eq_true h

theorem appendK_sound (hti : TyOk P ti) {R : Type} {s x : Operand} {T : TypeId} {k : Prim → Option R} {r : R} (ho : o.op = .call { callee := .builtin .append, args := #[s, x], argTypes := #[T, T] }) (hk : (ti T).kd = .slice)
    (hkn : (ti (ti T).elem).kd ≠ .other) (h : appendK ti T (ρ s) (ρ x) k = some r) : ∃ p, k p = some r ∧ Impl P o ρ p := by
  unfold appendK at h
  split at h
  · rename_i h1 h2
    exact ⟨_, h, by rw [← h1]; exact impl_append_none hti ho hk hkn h2 (.inl h1)⟩
  · rename_i sz b lo len cap h1 h2
    exact ⟨_, h, by rw [← h1]; exact impl_append_none hti ho hk hkn h2 (.inr ⟨_, _, _, _, _, h1⟩)⟩
  · rename_i sz2 b2 lo2 n cap2 h1 h2
    have hc := (of_cond h).1; replace h := (of_cond h).2
    simp only [Bool.and_eq_true] at hc
    obtain ⟨⟨⟨⟨⟨hz, hb⟩, hcs⟩, hsz⟩, hn⟩, hbig⟩ := hc
    exact ⟨_, h, impl_append_nil hti ho hk hkn (beq_nat hz) (blt_nat hb) (beq_nat hcs) h1 h2 (beq_nat hsz) (blt_nat hn) (Nat.le_of_ble_eq_true hbig)⟩
  · rename_i sz b lo len cap sz2 b2 lo2 n cap2 h1 h2
    have hc := (of_cond h).1; replace h := (of_cond h).2
    simp only [Bool.and_eq_true] at hc
    obtain ⟨⟨⟨⟨⟨⟨⟨hz, hb⟩, hcs⟩, hsz1⟩, hsz⟩, hn⟩, _⟩, hbig⟩ := hc
    split at h
    · exact ⟨_, h, impl_append hti ho hk hkn (beq_nat hz) (blt_nat hb) (beq_nat hcs) h1 (beq_nat hsz1) h2 (beq_nat hsz) (blt_nat hn) (Nat.le_of_ble_eq_true hbig) true (by simp)⟩
    · have hc := (of_cond h).1; replace h := (of_cond h).2
      exact ⟨_, h, impl_append hti ho hk hkn (beq_nat hz) (blt_nat hb) (beq_nat hcs) h1 (beq_nat hsz1) h2 (beq_nat hsz) (blt_nat hn) (Nat.le_of_ble_eq_true hbig) false (fun _ => ⟨_, rfl, blt_nat hc⟩)⟩
  · cases h

theorem builtinK_sound (hti : TyOk P ti) {R : Type} {c : Call} {b : Builtin} {k : Prim → Option R} {r : R} (ho : o.op = .call c) (hc : c.callee = .builtin b)
    (h : builtinK ti b c.argTypes.toList (c.args.toList.map ρ) k = some r) : ∃ p, k p = some r ∧ Impl P o ρ p := by
  obtain ⟨callee, args, ats⟩ := c
  simp only at hc h
  subst hc
  unfold builtinK at h
  split at h
  · -- len
    rename_i T x hats hargs
    obtain ⟨y, hy, hρ⟩ := map_one hargs
    have ha := list_one hy
    have ht := list_one hats
    subst ha; subst ht
    split at h
    · rename_i s hk
      exact ⟨_, h, impl_len_str hti ho hρ hk⟩
    · rename_i hk
      exact ⟨_, h, impl_len_slice (n := 0) hti ho hk (.inl ⟨hρ, rfl⟩)⟩
    · rename_i sz b lo len cap hk
      exact ⟨_, h, impl_len_slice hti ho hk (.inr ⟨_, _, _, _, hρ⟩)⟩
    · cases h
  · rename_i x l hargs
    cases hl : args.toList with
    | nil => rw [hl] at hargs; simp at hargs
    | cons y l' =>
      rw [hl] at hargs; simp at hargs
      obtain ⟨rfl, rfl⟩ := hargs
      obtain ⟨v, hv, hi⟩ := impl_minmax (P := P) (o := o) (ρ := ρ) true (args := args) (ats := ats) (by simpa using ho) hl h
      exact ⟨_, hv, hi⟩
  · rename_i x l hargs
    cases hl : args.toList with
    | nil => rw [hl] at hargs; simp at hargs
    | cons y l' =>
      rw [hl] at hargs; simp at hargs
      obtain ⟨rfl, rfl⟩ := hargs
      obtain ⟨v, hv, hi⟩ := impl_minmax (P := P) (o := o) (ρ := ρ) false (args := args) (ats := ats) (by simpa using ho) hl h
      exact ⟨_, hv, hi⟩
  · rename_i T T' s x hats hargs
    obtain ⟨y, z, hyz, rfl, rfl⟩ := map_two hargs
    have ha := list_two hyz
    have ht := list_two hats
    subst ha; subst ht
    split at h
    · rename_i hk
      have hc := (of_cond h).1; replace h := (of_cond h).2
      simp only [Bool.and_eq_true] at hc
      have e := beq_nat hc.1
      subst e
      exact appendK_sound hti ho hk (known_ne hc.2) h
    · cases h
  · rename_i T x hats hargs
    obtain ⟨y, hy, hρ⟩ := map_one hargs
    have ha := list_one hy
    have ht := list_one hats
    subst ha; subst ht
    split at h
    · rename_i hk
      exact ⟨_, h, impl_clear_nil hti ho hk hρ⟩
    · rename_i sz b lo len cap hk
      have hc := (of_cond h).1; replace h := (of_cond h).2
      simp only [Bool.and_eq_true] at hc
      obtain ⟨⟨⟨hkn, hsz⟩, hz⟩, hsc⟩ := hc
      exact ⟨_, h, impl_clear hti ho hk (known_ne hkn) (beq_nat hsz) (beq_nat hz) hsc hρ⟩
    · cases h
  · cases h

theorem sliceK_sound (hti : TyOk P ti) {R : Type} {T : TypeId} {x : Operand} {lo hi : Option Operand} {k : AVal → Option R} {r : R} (ho : o.op = .slice T x lo hi none)
    (h : sliceK ti T (ρ x) (lo.map ρ) (hi.map ρ) k = some r) : ∃ v, k v = some r ∧ Impl P o ρ (.ret v) := by
  have some_of : ∀ {y : Option Operand} {v : AVal}, y.map ρ = some v → ∃ z, y = some z ∧ ρ z = v := by
    intro y v hy
    cases y with
    | none => simp at hy
    | some z => exact ⟨z, rfl, by simpa using hy⟩
  have none_of : ∀ {y : Option Operand}, y.map ρ = none → y = none := by
    intro y hy
    cases y with
    | none => rfl
    | some z => simp at hy
  have toNat_int : ∀ {l : Int}, 0 ≤ l → ((l.toNat : Nat) : Int) = l := fun h => Int.toNat_of_nonneg h
  unfold sliceK at h
  split at h
  · rename_i s hk hx
    split at h
    · rename_i e1 e2
      exact ⟨_, h, impl_cut_str hti ho hk hx (Nat.le_refl _) (Nat.zero_le _) (.inl ⟨none_of e2, rfl⟩) (.inl ⟨none_of e1, rfl⟩)⟩
    · rename_i kk l e1 e2
      have hc := (of_cond h).1; replace h := (of_cond h).2
      have hc := of_decide_eq_true hc
      obtain ⟨z, rfl, hz⟩ := some_of e1
      exact ⟨_, h, impl_cut_str hti ho hk hx (Nat.le_refl _) (by omega) (.inl ⟨none_of e2, rfl⟩) (.inr ⟨z, kk, rfl, by rw [hz, toNat_int hc.1]⟩)⟩
    · rename_i kk q e1 e2
      have hc := (of_cond h).1; replace h := (of_cond h).2
      have hc := of_decide_eq_true hc
      obtain ⟨z, rfl, hz⟩ := some_of e2
      exact ⟨_, h, impl_cut_str hti ho hk hx (by omega) (Nat.zero_le _) (.inr ⟨z, kk, rfl, by rw [hz, toNat_int hc.1]⟩) (.inl ⟨none_of e1, rfl⟩)⟩
    · rename_i kk l kk' q e1 e2
      have hc := (of_cond h).1; replace h := (of_cond h).2
      have hc' := (of_cond h).1; replace h := (of_cond h).2
      have hc := of_decide_eq_true hc
      have hc' := of_decide_eq_true hc'
      obtain ⟨z, rfl, hz⟩ := some_of e1
      obtain ⟨z', rfl, hz'⟩ := some_of e2
      exact ⟨_, h, impl_cut_str hti ho hk hx (by omega) (by omega) (.inr ⟨z', kk', rfl, by rw [hz', toNat_int hc.1]⟩) (.inr ⟨z, kk, rfl, by rw [hz, toNat_int hc'.1]⟩)⟩
    · cases h
  · rename_i sz b l0 len cap hk hx
    have hc0 := (of_cond h).1; replace h := (of_cond h).2
    simp only [Bool.and_eq_true] at hc0
    have hkn := known_ne hc0.1
    have hsz := beq_nat hc0.2
    split at h
    · rename_i e1 e2
      have := impl_cut_slice hti (l := 0) (h := len) ho hk hkn hsz hx (Nat.le_refl _) (Nat.zero_le _) (.inl ⟨none_of e2, rfl⟩) (.inl ⟨none_of e1, rfl⟩)
      refine ⟨_, h, ?_⟩
      have e : cap.map (· - 0) = cap := by cases cap <;> rfl
      rw [e, Nat.zero_add, Nat.sub_zero] at this
      rw [hx]; exact this
    · rename_i kk l e1 e2
      have hc := (of_cond h).1; replace h := (of_cond h).2
      have hc := of_decide_eq_true hc
      obtain ⟨z, rfl, hz⟩ := some_of e1
      exact ⟨_, h, impl_cut_slice hti ho hk hkn hsz hx (Nat.le_refl _) (by omega) (.inl ⟨none_of e2, rfl⟩) (.inr ⟨z, kk, rfl, by rw [hz, toNat_int hc.1]⟩)⟩
    · rename_i kk q e1 e2
      have hc := (of_cond h).1; replace h := (of_cond h).2
      have hc := of_decide_eq_true hc
      obtain ⟨z, rfl, hz⟩ := some_of e2
      have := impl_cut_slice hti (l := 0) (h := q.toNat) ho hk hkn hsz hx (by omega) (Nat.zero_le _) (.inr ⟨z, kk, rfl, by rw [hz, toNat_int hc.1]⟩) (.inl ⟨none_of e1, rfl⟩)
      refine ⟨_, h, ?_⟩
      have e : cap.map (· - 0) = cap := by cases cap <;> rfl
      rw [e, Nat.zero_add, Nat.sub_zero] at this
      exact this
    · rename_i kk l kk' q e1 e2
      have hc := (of_cond h).1; replace h := (of_cond h).2
      have hc' := (of_cond h).1; replace h := (of_cond h).2
      have hc := of_decide_eq_true hc
      have hc' := of_decide_eq_true hc'
      obtain ⟨z, rfl, hz⟩ := some_of e1
      obtain ⟨z', rfl, hz'⟩ := some_of e2
      exact ⟨_, h, impl_cut_slice hti ho hk hkn hsz hx (by omega) (by omega) (.inr ⟨z', kk', rfl, by rw [hz', toNat_int hc.1]⟩) (.inr ⟨z, kk, rfl, by rw [hz, toNat_int hc'.1]⟩)⟩
    · cases h
  · rename_i hk hx
    have hc0 := (of_cond h).1; replace h := (of_cond h).2
    have hkn := known_ne hc0
    split at h
    · rename_i e1 e2
      exact ⟨_, h, impl_cut_nil hti ho hk hkn hx (.inl (none_of e2)) (.inl (none_of e1))⟩
    · rename_i kk l e1 e2
      have hc := (of_cond h).1; replace h := (of_cond h).2
      have hc := of_decide_eq_true hc
      obtain ⟨z, rfl, hz⟩ := some_of e1
      exact ⟨_, h, impl_cut_nil hti ho hk hkn hx (.inl (none_of e2)) (.inr ⟨z, kk, rfl, by rw [hz, hc]⟩)⟩
    · rename_i kk q e1 e2
      have hc := (of_cond h).1; replace h := (of_cond h).2
      have hc := of_decide_eq_true hc
      obtain ⟨z, rfl, hz⟩ := some_of e2
      exact ⟨_, h, impl_cut_nil hti ho hk hkn hx (.inr ⟨z, kk, rfl, by rw [hz, hc]⟩) (.inl (none_of e1))⟩
    · rename_i kk l kk' q e1 e2
      have hc := (of_cond h).1; replace h := (of_cond h).2
      have hc' := (of_cond h).1; replace h := (of_cond h).2
      have hc := of_decide_eq_true hc
      have hc' := of_decide_eq_true hc'
      obtain ⟨z, rfl, hz⟩ := some_of e1
      obtain ⟨z', rfl, hz'⟩ := some_of e2
      exact ⟨_, h, impl_cut_nil hti ho hk hkn hx (.inr ⟨z', kk', rfl, by rw [hz', hc]⟩) (.inr ⟨z, kk, rfl, by rw [hz, hc']⟩)⟩
    · cases h
  · cases h
end Go.Proofs.YtdgipcjigbagfaaGreat.AB
