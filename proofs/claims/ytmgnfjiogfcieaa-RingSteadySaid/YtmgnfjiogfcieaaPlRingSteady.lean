/- RingSteady answers true. -/
import Derived.Test.YtmgnfjiogfcieaaPlRingL
import Derived.Test.YtmgnfjiogfcieaaSRingSteady
namespace Go.Proofs.Ytmgnfjiogfcieaa.AB
set_option linter.unusedVariables false
set_option linter.unusedSimpArgs false

theorem tdiv_in {a g : Int} (a0 : 0 ≤ a) (g1 : 1 ≤ g) : g * a.tdiv g ≤ a ∧ a < g * a.tdiv g + g := by
  have h1 := Int.mul_tdiv_add_tmod a g
  have h2 := Int.tmod_nonneg g a0
  have h3 := Int.tmod_lt_of_pos a (b := g) (by omega)
  omega
theorem vs_const {X g : Int} {W : Int → Bool} : ∀ {R : List (Int × Int)}, (∀ y ∈ R, y.2 = X) → vs g W R = X * ns g W R
  | [], _ => by simp [vs, ns, wsum]
  | x :: R, h => by
    have ih := vs_const (X := X) (g := g) (W := W) (R := R) (fun y hy => h y (by simp [hy]))
    have hx := h x (by simp)
    unfold vs ns at ih ⊢
    simp only [wsum]
    rw [ih, Int.mul_add, hx]
    split <;> simp
/-- a mean of one value -/
theorem mean_const {X g N last : Int} {R : List (Int × Int)} (hR : ∀ y ∈ R, y.2 = X) (X0 : 0 ≤ X) (X1 : X < 1000000000) (hl : R.length ≤ 300) {x : Int × Int} (hx : x ∈ R) (hin : inW N last (bk g x) = true) :
    meanOf (min M63 (vs g (inW N last) R)) (ns g (inW N last) R) = X ∧ over (vs g (inW N last) R) = false ∧ min M63 (vs g (inW N last) R) = X * ns g (inW N last) R ∧ 1 ≤ ns g (inW N last) R ∧ ns g (inW N last) R ≤ R.length ∧ 0 ≤ X * ns g (inW N last) R ∧ X * ns g (inW N last) R ≤ 300000000000 := by
  have h1 := ns_pos (g := g) (W := inW N last) hx hin
  have h2 := ns_le g (inW N last) R
  have hv := vs_const (g := g) (W := inW N last) hR
  have hM : M63 = 9223372036854775807 := rfl
  have hb : X * ns g (inW N last) R ≤ 1000000000 * 300 := Int.mul_le_mul (by omega) (by omega) (by omega) (by omega)
  have hb0 : 0 ≤ X * ns g (inW N last) R := Int.mul_nonneg X0 (by omega)
  rw [hv, min_small (by omega), over_small (by omega)]
  refine ⟨?_, rfl, rfl, h1, h2, hb0, by omega⟩
  unfold meanOf
  rw [if_neg (by omega)]
  exact Int.mul_tdiv_cancel X (by omega)

theorem RingSteady_loop (fu : Nat) (w g v c G W X : Int) (K : Nat) (hX : IntKind.wrap .i64 (Int.tmod (IntKind.wrap .u64 v) 1000000000) = X) (X0 : 0 ≤ X) (X1 : X < 1000000000)
    (hK : IntKind.wrap .i64 (1 + IntKind.wrap .i64 (Int.tmod (IntKind.wrap .u64 c) 200)) = (K : Int)) (K1 : K ≤ 200) (hw : Rok W G) :
    ∀ (k i : Nat) (nw : Int) (R : List (Int × Int)) (lo len : Nat) (L : FL) (f : BL), i ≤ K → K < k + i → PRel G (NB W G) nw R lo len L f → -1 ≤ nw → nw ≤ (i : Int).tdiv G → (∀ y ∈ R, y.2 = X ∧ 0 ≤ y.1 ∧ y.1 < i) → R.length ≤ i → (i = 0 ∨ ((i : Int) - 1, X) ∈ R) →
    ∃ nw' R' lo' len' L' f', S.RingSteady_l0 fu w g v c k i lo len W G (NB W G) nw false L f = some (.inr ((K : Int), false, lo', len', W, G, NB W G, nw', false, L', f')) ∧ PRel G (NB W G) nw' R' lo' len' L' f' ∧ (∀ y ∈ R', y.2 = X ∧ 0 ≤ y.1 ∧ y.1 < K) ∧ R'.length ≤ K ∧ (K = 0 ∨ ((K : Int) - 1, X) ∈ R') := by
  have hg1 := hw.1.1
  have hN := NB_b hw.1.1 hw.1.2 hw.2
  have hM : M63 = 9223372036854775807 := rfl
  intro k
  induction k with
  | zero => intro i nw R lo len L f _ _; omega
  | succ k ih =>
    intro i nw R lo len L f hi hk hP n0 n1 hR hRl hlast
    unfold S.RingSteady_l0
    have htd := tdv (a := (i : Int)) (g := G) (by omega) hg1
    by_cases c2 : i < K
    · have g1 : ((i : Int) < (K : Int)) := by omega
      have hwi : IntKind.wrap .i64 ((i : Int) + 1) = ((i + 1 : Nat) : Int) := by rw [wrap_id (by omega) (by omega)]; omega
      have htk : Tk ((i : Int), X) := mk_tk (by omega) (by omega) X0 (by omega)
      obtain ⟨lo', len', L', f', e, hP'⟩ := rp_ok hP hw n0 (by omega) htk (by omega) false
      have ebk : bk G ((i : Int), X) = (i : Int).tdiv G := rfl
      have epn : pnw G nw ((i : Int), X) = (i : Int).tdiv G := by rw [pnw_new (by rw [ebk]; exact n1), ebk]
      have hln := pR_len G (NB W G) nw ((i : Int), X) R
      obtain ⟨R2, hR2⟩ : ∃ q, q = pR G (NB W G) nw ((i : Int), X) R := ⟨_, rfl⟩
      have hmem : ((i : Int), X) ∈ R2 := by
        rw [hR2]; unfold pR; rw [if_pos (by rw [ebk]; omega)]
        exact List.mem_filter.mpr ⟨by simp, by unfold Kp; rw [epn, ebk]; simp; omega⟩
      have hR2a : ∀ y ∈ R2, y.2 = X ∧ 0 ≤ y.1 ∧ y.1 < ((i + 1 : Nat) : Int) := by
        intro y hy
        rw [hR2] at hy; unfold pR at hy; rw [if_pos (by rw [ebk]; omega)] at hy
        have := (List.mem_filter.mp hy).1
        rcases List.mem_append.mp this with h | h
        · have := hR y h; exact ⟨this.1, this.2.1, by omega⟩
        · simp at h; subst h; exact ⟨rfl, by simp only; omega, by simp only; omega⟩
      rw [epn, ← hR2] at hP'
      rw [epn] at e
      rw [← hR2] at hln
      obtain ⟨m1, m2, m3, m4, m5, m6, m7⟩ := mean_const (g := G) (N := NB W G) (last := (i : Int).tdiv G) (fun y hy => (hR2a y hy).1) X0 X1 (by omega) hmem (inW_t (by rw [ebk]; omega) (by rw [ebk]; omega))
      simp only [hK, g1, decide_true, cond_true, hX, hwi]
      rw [S.q_rp_eq, e]
      simp only [optK, decide_true, Bool.not_true, cond_false]
      rw [S.q_rm_eq, rm_ok hP' hg1 (by omega) W false (by omega) (by omega), m1, m2]
      simp only [optK, decide_true, Bool.not_true, cond_false, Bool.or_false]
      have hmono : (i : Int).tdiv G ≤ ((i + 1 : Nat) : Int).tdiv G := Int.tdiv_le_tdiv (by omega) (by omega)
      exact ih (i + 1) _ R2 lo' len' L' f' (by omega) (by omega) hP' (by omega) hmono hR2a (by omega) (.inr (by rw [show ((i + 1 : Nat) : Int) - 1 = (i : Int) by omega]; exact hmem))
    · have g1 : ¬ ((i : Int) < (K : Int)) := by omega
      have hiK : i = K := by omega
      subst hiK
      simp only [hK, g1, decide_false, cond_false]
      exact ⟨nw, R, lo, len, L, f, rfl, hP, hR, hRl, hlast⟩

theorem RingSteady_true (w g v c : Int) : S.RingSteady 100000 w g v c = some true := by
  obtain ⟨y, hy, y0, y1⟩ := um w (m := 60) (by omega) (by omega)
  obtain ⟨W, hW⟩ : ∃ W, W = 1 + y := ⟨_, rfl⟩
  obtain ⟨z, hz, z0, z1⟩ := um g (m := W) (by omega) (by omega)
  obtain ⟨G, hG⟩ : ∃ G, G = 1 + z := ⟨_, rfl⟩
  obtain ⟨X, hX, X0, X1⟩ := um v (m := 1000000000) (by omega) (by omega)
  obtain ⟨q, hq, q0, q1⟩ := um c (m := 200) (by omega) (by omega)
  have hWw : IntKind.wrap .i64 (1 + y) = W := by rw [wrap_id (by omega) (by omega), hW]
  have hWu : IntKind.wrap .u64 W = W := wrap_u (by omega) (by omega)
  have hGw : IntKind.wrap .i64 (1 + z) = G := by rw [wrap_id (by omega) (by omega), hG]
  obtain ⟨K, hKd⟩ : ∃ K : Nat, (K : Int) = 1 + q := ⟨(1 + q).toNat, by omega⟩
  have hK : IntKind.wrap .i64 (1 + IntKind.wrap .i64 (Int.tmod (IntKind.wrap .u64 c) 200)) = (K : Int) := by rw [hq, wrap_id (by omega) (by omega), hKd]
  have nz : ¬ W = 0 := by omega
  have hw : Rok W G := ⟨⟨by omega, by omega⟩, by omega⟩
  have hN := NB_b hw.1.1 hw.1.2 hw.2
  have hM : M63 = 9223372036854775807 := rfl
  have hg1 := hw.1.1
  have hgz : ¬ G = 0 := by omega
  have e1 : S.rm1 W G (NB W G) (-1) false 5 = some (0, W, G, NB W G, -1, false) := by
    unfold S.rm1 S.rs1
    simp [hgz]
    unfold S.rs1_l0
    simp [optK, S.rs1_a0_0]
  unfold S.RingSteady
  rw [hy, hWw, hWu, hz, hGw, S.q_pring_eq, new_yes hw]
  simp only [optK, Sum.elim_inr, nz, decide_false, cond_false]
  rw [S.q_rm1_eq, e1]
  simp only [optK, decide_true, Bool.not_true, cond_false]
  obtain ⟨nw', R', lo', len', L', f', e2, hP, hR, hRl, hlast⟩ := RingSteady_loop 100000 w g v c G W X K hX X0 X1 hK (by omega) hw 100000 0 (-1) [] 0 0 [] [] (by omega) (by omega) (PRel.nil ..) (by omega) (by simp) (fun _ h => (by cases h)) (by simp) (.inl rfl)
  have e2' : S.RingSteady_l0 100000 w g v c 100000 0 0 0 W G (NB W G) (-1) false [] [] = _ := e2
  have hmem : ((K : Int) - 1, X) ∈ R' := hlast.resolve_left (by omega)
  have htk := tdv (a := (K : Int) - 1) (g := G) (by omega) hg1
  have ebk : bk G ((K : Int) - 1, X) = ((K : Int) - 1).tdiv G := rfl
  obtain ⟨m1, m2, m3, m4, m5, m6, m7⟩ := mean_const (g := G) (N := NB W G) (last := ((K : Int) - 1).tdiv G) (fun y hy => (hR y hy).1) X0 X1 (by omega) hmem (inW_t (by rw [ebk]; omega) (by rw [ebk]; omega))
  simp only [e2', optK, Sum.elim_inr, S.RingSteady_a0_1, hK, hX]
  rw [wrap_id (n := (K : Int) - 1) (by omega) (by omega), wrap_id (n := (K : Int) + 1000) (by omega) (by omega), S.q_rs_eq, rs_ok hP hg1 (by omega) W false (by omega) (by omega), m2, m3]
  simp only [optK, Bool.or_false]
  have wX : IntKind.wrap .i64 (X * ns G (inW (NB W G) (((K : Int) - 1).tdiv G)) R') = X * ns G (inW (NB W G) (((K : Int) - 1).tdiv G)) R' := wrap_id (by omega) (by omega)
  have m5' : ns G (inW (NB W G) (((K : Int) - 1).tdiv G)) R' ≤ (K : Int) := by omega
  simp only [wX, m4, m5', decide_true, cond_true]
  -- nothing a thousand ticks on
  have hno : ns G (inW (NB W G) (((K : Int) + 1000).tdiv G)) R' = 0 := by
    refine wsum_zero fun x hx => inW_f fun _ h => ?_
    have hxr := hR x hx
    have a1 := tdiv_in (a := (K : Int) + 1000) (g := G) (by omega) hg1
    have a2 := tdiv_in (a := x.1) (g := G) hxr.2.1 hg1
    have a3 := tdiv_in (a := W + G - 1) (g := G) (by omega) hg1
    have a4 : bk G x = x.1.tdiv G := rfl
    have a5 : NB W G = (W + G - 1).tdiv G := rfl
    rw [a4, a5] at h
    have a6 : G * (((K : Int) + 1000).tdiv G - x.1.tdiv G) ≤ G * ((W + G - 1).tdiv G) := Int.mul_le_mul_of_nonneg_left (by omega) (by omega)
    rw [Int.mul_sub] at a6
    omega
  have hv0 : vs G (inW (NB W G) (((K : Int) + 1000).tdiv G)) R' = 0 := by
    rw [vs_const (fun y hy => (hR y hy).1), hno]; simp
  rw [S.q_rm_eq, rm_ok hP hg1 (by omega) W false (by omega) (by omega), hno, hv0]
  simp [meanOf, optK]
end Go.Proofs.Ytmgnfjiogfcieaa.AB
