/- Rings: each method, told by what was put and is kept. -/
import Derived.Test.YtfoaihjkmfhaoaaPlRing3
namespace Go.Proofs.Ytfoaihjkmfhaoaa.AB
set_option linter.unusedVariables false
set_option linter.unusedSimpArgs false

/-- a ring's cells tell the records that are kept -/
structure PRel (g n nw : Int) (R : List (Int × Int)) (lo len : Nat) (l : FL) (f : BL) : Prop where
  bs : ∃ bs, RepR lo len l f bs ∧ Same g bs R
  tk : ∀ x ∈ R, Tk x
  near : ∀ x ∈ R, nw - bk g x < n

theorem PRel.nil (g n nw : Int) : PRel g n nw [] 0 0 [] [] := ⟨⟨[], rep_nil, Same.nil g⟩, fun _ h => (by cases h), fun _ h => (by cases h)⟩

/-- the newest bucket, behind a record -/
def pnw (g nw : Int) (x : Int × Int) : Int := if bk g x > nw then bk g x else nw
/-- what is kept, behind a record -/
def pR (g n nw : Int) (x : Int × Int) (R : List (Int × Int)) : List (Int × Int) := if nw - bk g x < n then (R ++ [x]).filter (Kp g n (pnw g nw x)) else R

theorem pnw_b {g nw : Int} {x : Int × Int} (g1 : 1 ≤ g) (hx : Takes x) (w0 : -1 ≤ nw) (w1 : nw ≤ 1099511627776) : -1 ≤ pnw g nw x ∧ pnw g nw x ≤ 1099511627776 ∧ nw ≤ pnw g nw x ∧ bk g x ≤ pnw g nw x := by
  have := bk_b g1 hx
  unfold pnw; split <;> omega
theorem pR_len (g n nw : Int) (x : Int × Int) (R : List (Int × Int)) : (pR g n nw x R).length ≤ R.length + 1 := by
  unfold pR
  split
  · have := List.length_filter_le (Kp g n (pnw g nw x)) (R ++ [x]); rw [List.length_append, List.length_singleton] at this; exact this
  · omega
theorem pR_tk {g n nw : Int} {x : Int × Int} {R : List (Int × Int)} (hR : ∀ y ∈ R, Tk y) (hx : Tk x) : ∀ y ∈ pR g n nw x R, Tk y := by
  intro y hy
  unfold pR at hy
  split at hy
  · have := (List.mem_filter.mp hy).1
    rcases List.mem_append.mp this with h | h
    · exact hR y h
    · simp at h; subst h; exact hx
  · exact hR y hy

theorem PRel.near' {g n nw : Int} {R : List (Int × Int)} {lo len : Nat} {l : FL} {f : BL} (h : PRel g n nw R lo len l f) : R.filter (Kp g n nw) = R := by
  refine List.filter_eq_self.mpr fun x hx => ?_
  have := h.near x hx
  unfold Kp; simp [this]

/-- keeping is asked for again -/
theorem keepB_id {g n nw : Int} {bs : List Bk} {R : List (Int × Int)} (h : Same g bs R) (hn : ∀ x ∈ R, nw - bk g x < n) : keepB n nw bs = bs := by
  unfold keepB gone
  refine List.filter_eq_self.mpr fun b hb => ?_
  obtain ⟨x, hx, e⟩ := h.some_ b hb
  have := hn x hx
  rw [e] at this
  simp; omega

theorem rp_ok {w g nw : Int} {R : List (Int × Int)} {lo len : Nat} {l : FL} {f : BL} (h : PRel g (NB w g) nw R lo len l f) (hw : Rok w g) (w0 : -1 ≤ nw) (w1 : nw ≤ 1099511627776) {x : Int × Int} (hx : Tk x) (hl : R.length ≤ 70000) (ov : Bool) :
    ∃ lo' len' l' f', S.rp l f lo len w g (NB w g) nw ov x.1 x.2 = some (0, lo', len', w, g, NB w g, pnw g nw x, ov, l', f') ∧ PRel g (NB w g) (pnw g nw x) (pR g (NB w g) nw x R) lo' len' l' f' := by
  obtain ⟨⟨g1, gw⟩, w6⟩ := hw
  obtain ⟨bs, hrep, hs⟩ := h.bs
  have hN := NB_b g1 gw w6
  have hbl := hs.len
  obtain ⟨lo', len', l', f', e, hr⟩ := rp_yes hrep (hs.atOk g1 h.tk) (hs.nOk (by omega)) (by omega) (rn := NB w g) (t := x.1) (v := x.2) w ov w0 w1 g1 hx.1.1.1 hx.1.1.2 hx.1.2
  have hb := pnw_b (nw := nw) g1 hx.1 w0 w1
  have epn : (if x.1.tdiv g > nw then x.1.tdiv g else nw) = pnw g nw x := rfl
  rw [epn] at e hr
  refine ⟨lo', len', l', f', e, ?_⟩
  have ebk : x.1.tdiv g = bk g x := rfl
  rw [ebk] at hr
  by_cases c : nw - bk g x < NB w g
  · have c2 : ¬ NB w g ≤ pnw g nw x - bk g x := by unfold pnw; split <;> omega
    rw [if_neg c2] at hr
    have hkx : Kp g (NB w g) (pnw g nw x) x = true := by unfold Kp; simp; omega
    have epR : pR g (NB w g) nw x R = R.filter (Kp g (NB w g) (pnw g nw x)) ++ [x] := by
      unfold pR; rw [if_pos c, List.filter_append]; simp [hkx]
    refine ⟨⟨_, hr, ?_⟩, pR_tk h.tk hx, fun y hy => ?_⟩
    · rw [epR]
      exact (hs.forget (NB w g) (pnw g nw x)).put hx (fun y hy => h.tk y (List.mem_filter.mp hy).1)
    · rw [epR] at hy
      rcases List.mem_append.mp hy with hy | hy
      · have := (List.mem_filter.mp hy).2; unfold Kp at this; simpa using this
      · simp at hy; subst hy; omega
  · have epw : pnw g nw x = nw := by unfold pnw; rw [if_neg (by omega)]
    have epR : pR g (NB w g) nw x R = R := by unfold pR; rw [if_neg c]
    rw [epw] at hr ⊢
    rw [epR]
    rw [if_pos (by omega), keepB_id hs h.near] at hr
    exact ⟨⟨bs, hr, hs⟩, h.tk, h.near⟩

/-- into a ring of nothing -/
theorem rp1_ok {w g nw : Int} (hw : Rok w g) (w0 : -1 ≤ nw) (w1 : nw ≤ 1099511627776) {x : Int × Int} (hx : Tk x) (ov : Bool) :
    ∃ len' l' f', S.rp1 w g (NB w g) nw ov x.1 x.2 = some (0, len', w, g, NB w g, pnw g nw x, ov, l', f') ∧ PRel g (NB w g) (pnw g nw x) (pR g (NB w g) nw x []) 0 len' l' f' := by
  obtain ⟨⟨g1, gw⟩, w6⟩ := hw
  have hN := NB_b g1 gw w6
  obtain ⟨⟨⟨t0, t1⟩, v0⟩, v1⟩ := hx
  have hx : Tk x := ⟨⟨⟨t0, t1⟩, v0⟩, v1⟩
  have htd := tdv t0 g1
  have hwa : IntKind.wrap .i64 (x.1.tdiv g) = bk g x := bk_w g1 hx.1
  have hbk := bk_b g1 hx.1
  have hb := pnw_b (nw := nw) g1 hx.1 w0 w1
  have p1 : ¬ x.1 < 0 := by omega
  have p2 : ¬ 1099511627776 < x.1 := by omega
  have p3 : ¬ x.2 < 0 := by omega
  have p4 : ¬ g = 0 := by omega
  have epn : (if bk g x > nw then bk g x else nw) = pnw g nw x := rfl
  unfold S.rp1 S.rgo1
  simp only [hwa, epn, p1, p2, p3, p4, decide_false, cond_false]
  rw [wrap_id (n := pnw g nw x - bk g x) (by omega) (by omega)]
  by_cases c : nw - bk g x < NB w g
  · have c2 : ¬ NB w g ≤ pnw g nw x - bk g x := by unfold pnw; split <;> omega
    simp only [c2, decide_false, cond_false]
    rw [wrap_id (n := 0 + 1) (by omega) (by omega)]
    have hkx : Kp g (NB w g) (pnw g nw x) x = true := by unfold Kp; simp; omega
    have epR : pR g (NB w g) nw x [] = [x] := by
      unfold pR; rw [if_pos c]; simp [hkx]
    refine ⟨_, _, _, rfl, ⟨[addTo (bk g x, 0, 0, false) x.2], ⟨rfl, by simp [cutL], [0], ⟨rfl, fun i q hq => ?_, fun i q b hq hb => ?_, by simp⟩⟩, ?_⟩, pR_tk (fun _ h => (by cases h)) hx, fun y hy => ?_⟩
    · cases i with
      | zero => simp at hq; subst hq; rfl
      | succ i => simp at hq
    · cases i with
      | zero => simp at hq hb; subst hq; subst hb; simp [addTo]
      | succ i => simp at hq
    · rw [epR]; exact (Same.nil g).put hx (fun _ h => (by cases h))
    · rw [epR] at hy; simp at hy; subst hy; omega
  · have epw : pnw g nw x = nw := by unfold pnw; rw [if_neg (by omega)]
    have epR : pR g (NB w g) nw x [] = [] := by unfold pR; rw [if_neg c]
    have c2 : NB w g ≤ pnw g nw x - bk g x := by rw [epw]; omega
    simp only [c2, decide_true, cond_true]
    rw [epR]
    exact ⟨_, _, _, rfl, PRel.nil ..⟩
theorem rp1_no (rw_ rg rn nw t v : Int) (ov : Bool) (h : ¬ Takes (t, v)) : S.rp1 rw_ rg rn nw ov t v = some (1, 0, rw_, rg, rn, nw, ov, [], []) := by
  unfold S.rp1
  by_cases p1 : t < 0
  · simp [p1]
  by_cases p2 : 1099511627776 < t
  · simp [p1, p2]
  by_cases p3 : v < 0
  · simp [p1, p2, p3]
  exact absurd ⟨⟨by simp only; omega, by simp only; omega⟩, by simp only; omega⟩ h

/-- the sums within a window -/
theorem rs_ok {g n nw : Int} {R : List (Int × Int)} {lo len : Nat} {l : FL} {f : BL} (h : PRel g n nw R lo len l f) (g1 : 1 ≤ g) (hl : R.length ≤ 70000) (rw_ : Int) (ov : Bool) {t : Int} (t0 : 0 ≤ t) (t1 : t < 9223372036854775808) :
    S.rs 100000 l f lo len rw_ g n nw ov t = some (min M63 (vs g (inW n (t.tdiv g)) R), ns g (inW n (t.tdiv g)) R, lo, len, rw_, g, n, nw, ov || over (vs g (inW n (t.tdiv g)) R), l, f) := by
  obtain ⟨bs, hrep, hs⟩ := h.bs
  have hbl := hs.len
  rw [rs_eq hrep (hs.atOk g1 h.tk) (hs.nOk (by omega)) (by omega) rw_ g n nw t ov g1 t0 t1]
  have hM : (0 : Int) ≤ M63 := by unfold M63; omega
  have e0 : over 0 = false := by unfold over M63; rfl
  have key := sumS_eq n (t.tdiv g) (fun b => vs g (at_ b.1) R) bs (fun b hb => ⟨wsum_nn g _ (fun y hy => (h.tk y hy).1.2), hs.sum b hb, hs.cut b hb⟩) 0 0 ov (Int.le_refl _)
  rw [show min M63 0 = 0 by omega, e0, Bool.or_false, Int.zero_add, Int.zero_add] at key
  rw [key]
  have e1 : bsum (fun b => vs g (at_ b.1) R) (inW n (t.tdiv g)) bs = vs g (inW n (t.tdiv g)) R := bsum_wsum (fun x => x.2) g _ hs.nd hs.all
  have e2 : bsum (fun b => b.2.2.1) (inW n (t.tdiv g)) bs = ns g (inW n (t.tdiv g)) R := by
    exact (bsum_congr _ fun b hb => hs.num b hb).trans (bsum_wsum (fun _ => 1) g (inW n (t.tdiv g)) hs.nd hs.all)
  rw [e1, e2]

/-- the mean -/
def meanOf (s c : Int) : Int := if c = 0 then 0 else s.tdiv c
theorem meanOf_b {s c : Int} (s0 : 0 ≤ s) (s1 : s ≤ M63) (c0 : 0 ≤ c) : 0 ≤ meanOf s c ∧ meanOf s c ≤ M63 := by
  unfold meanOf
  split
  · unfold M63; omega
  · have := tdv (a := s) (g := c) s0 (by omega); omega
theorem rm_ok {g n nw : Int} {R : List (Int × Int)} {lo len : Nat} {l : FL} {f : BL} (h : PRel g n nw R lo len l f) (g1 : 1 ≤ g) (hl : R.length ≤ 70000) (rw_ : Int) (ov : Bool) {t : Int} (t0 : 0 ≤ t) (t1 : t < 9223372036854775808) :
    S.rm l f lo len rw_ g n nw ov t = some (meanOf (min M63 (vs g (inW n (t.tdiv g)) R)) (ns g (inW n (t.tdiv g)) R), lo, len, rw_, g, n, nw, ov || over (vs g (inW n (t.tdiv g)) R), l, f) := by
  have hM : (0 : Int) ≤ M63 := by unfold M63; omega
  have hv : 0 ≤ vs g (inW n (t.tdiv g)) R := wsum_nn g _ (fun y hy => (h.tk y hy).1.2)
  have hc : 0 ≤ ns g (inW n (t.tdiv g)) R := wsum_nn g _ (fun _ _ => by omega)
  unfold S.rm
  rw [rs_ok h g1 hl rw_ ov t0 t1]
  simp only [optK]
  by_cases c : ns g (inW n (t.tdiv g)) R = 0
  · simp only [c, decide_true, cond_true, meanOf, if_true]
  · have := meanOf_b (s := min M63 (vs g (inW n (t.tdiv g)) R)) (c := ns g (inW n (t.tdiv g)) R) (by omega) (by omega) hc
    simp only [c, decide_false, cond_false]
    unfold meanOf at this ⊢
    rw [if_neg c] at this ⊢
    unfold M63 at this
    rw [wrap_id (by unfold M63; omega) (by unfold M63; omega)]
theorem rm_neg (l : FL) (f : BL) (lo len : Nat) (rw_ rg rn nw t : Int) (ov : Bool) (h : t < 0) : S.rm l f lo len rw_ rg rn nw ov t = some (0, lo, len, rw_, rg, rn, nw, ov, l, f) := by
  unfold S.rm; rw [rs_neg l f lo len rw_ rg rn nw t ov h]; rfl

theorem nb_eq {w g : Int} (g1 : 1 ≤ g) (gw : g ≤ w) (w1 : w ≤ 600) : S.pbuckets w g = some (NB w g) := by
  have h := NB_b g1 gw w1
  have z : ¬ g = 0 := by omega
  unfold S.pbuckets
  rw [wrap_id (n := w + g) (by omega) (by omega), wrap_id (n := w + g - 1) (by omega) (by omega), wrap_id (n := (w + g - 1).tdiv g) (by unfold NB at h; omega) (by unfold NB at h; omega)]
  simp only [z, decide_false, cond_false]; rfl

theorem new_no {w g : Int} (h : ¬ Rok w g) : S.pring w g = some (.inl ()) := by
  unfold S.pring
  by_cases a : w < 1
  · simp only [a, decide_true, cond_true]
  by_cases b : 600 < w
  · simp only [a, b, decide_true, decide_false, cond_true, cond_false]
  by_cases c : g < 1
  · simp only [a, b, c, decide_true, decide_false, cond_true, cond_false]
  by_cases d : w < g
  · simp only [a, b, c, d, decide_true, decide_false, cond_true, cond_false]
  exact absurd ⟨⟨by omega, by omega⟩, by omega⟩ h
theorem new_yes {w g : Int} (h : Rok w g) : S.pring w g = some (.inr (w, g, NB w g)) := by
  obtain ⟨⟨h1, h2⟩, h3⟩ := h
  unfold S.pring
  have a : ¬ w < 1 := by omega
  have b : ¬ 600 < w := by omega
  have c : ¬ g < 1 := by omega
  have d : ¬ w < g := by omega
  simp only [a, b, c, d, decide_false, cond_false, nb_eq h1 h2 h3, optK]
end Go.Proofs.Ytfoaihjkmfhaoaa.AB
