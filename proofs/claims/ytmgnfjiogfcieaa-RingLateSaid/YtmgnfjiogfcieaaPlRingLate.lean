/- RingLate answers true. -/
import Derived.Test.YtmgnfjiogfcieaaPlRingL
import Derived.Test.YtmgnfjiogfcieaaSRingLate
namespace Go.Proofs.Ytmgnfjiogfcieaa.AB
set_option linter.unusedVariables false
set_option linter.unusedSimpArgs false

theorem RingLate_true (w q v : Int) : S.RingLate w q v = some true := by
  obtain ⟨y, hy, y0, y1⟩ := um w (m := 59) (by omega) (by omega)
  obtain ⟨W, hW⟩ : ∃ W, W = 2 + y := ⟨_, rfl⟩
  obtain ⟨K, hK, K0, K1⟩ := um q (m := W) (by omega) (by omega)
  obtain ⟨X, hX, X0, X1⟩ := um v (m := 1000000) (by omega) (by omega)
  have hM : M63 = 9223372036854775807 := rfl
  have hu : IntKind.wrap .u64 W = W := wrap_u (by omega) (by omega)
  have hN := NB_one W
  have hr := rok1 (w := W) (by omega) (by omega)
  have nz : ¬ W = 0 := by omega
  unfold S.RingLate
  rw [hy, wrap_id (n := 2 + y) (by omega) (by omega), ← hW, hu, hK, hX, wrap_id (n := 500 - K) (by omega) (by omega), wrap_id (n := 500 - K + W) (by omega) (by omega), wrap_id (n := 500 - K + W - 1) (by omega) (by omega), wrap_id (n := 1 + X) (by omega) (by omega), S.q_pring_eq, new_yes hr]
  simp only [optK, Sum.elim_inr, nz, decide_false, cond_false]
  obtain ⟨n1, l1, f1, e1, h1⟩ := rp1_ok hr (nw := -1) (by omega) (by omega) (x := (500, 1)) (mk_tk (by omega) (by omega) (by omega) (by omega)) false
  have b1 : bk 1 ((500 : Int), (1 : Int)) = 500 := bk_one _
  have b2 : bk 1 (500 - K, X) = 500 - K := bk_one _
  have p1 : pnw 1 (-1) (500, 1) = 500 := by rw [pnw_new (by rw [b1]; omega), b1]
  have r1 : pR 1 (NB W 1) (-1) (500, 1) [] = [(500, 1)] := pR_snoc (R := []) (by rw [b1, hN]; omega) (fun y hy => by simp at hy; subst hy; rw [p1, b1, hN]; omega)
  rw [p1, r1] at h1
  rw [p1] at e1
  rw [S.q_rp1_eq, e1]
  simp only [optK, decide_true, Bool.not_true, cond_false]
  obtain ⟨lo2, n2, l2, f2, e2, h2⟩ := rp_ok h1 hr (by omega) (by omega) (x := (500 - K, X)) (mk_tk (by omega) (by omega) (by omega) (by omega)) (by simp) false
  have p2 : pnw 1 500 (500 - K, X) = 500 := pnw_old (by rw [b2]; omega)
  have r2 : pR 1 (NB W 1) 500 (500 - K, X) [(500, 1)] = [(500, 1), (500 - K, X)] := pR_snoc (R := [(500, 1)]) (by rw [b2, hN]; omega) (fun y hy => by
    simp at hy; rcases hy with hy | hy
    · subst hy; rw [p2, b1, hN]; omega
    · subst hy; rw [p2, b2, hN]; omega)
  rw [p2, r2] at h2
  rw [p2] at e2
  rw [S.q_rp_eq, e2]
  simp only [optK, decide_true, Bool.not_true, cond_false]
  have v1 : vs 1 (inW (NB W 1) (((500 : Int)).tdiv 1)) [(500, 1), (500 - K, X)] = 1 + X := by
    rw [tdiv_one']; unfold vs
    rw [in1 (inW_t (by rw [b1]; omega) (by rw [b1, hN]; omega))]
    rw [in1 (inW_t (by rw [b2]; omega) (by rw [b2, hN]; omega))]
    simp [wsum]
  have c1 : ns 1 (inW (NB W 1) (((500 : Int)).tdiv 1)) [(500, 1), (500 - K, X)] = 2 := by
    rw [tdiv_one']; unfold ns
    rw [in1 (inW_t (by rw [b1]; omega) (by rw [b1, hN]; omega))]
    rw [in1 (inW_t (by rw [b2]; omega) (by rw [b2, hN]; omega))]
    simp [wsum]
  have v3 : vs 1 (inW (NB W 1) ((500 - K + W - 1).tdiv 1)) [(500, 1), (500 - K, X)] = 1 + X := by
    rw [tdiv_one']; unfold vs
    rw [in1 (inW_t (by rw [b1]; omega) (by rw [b1, hN]; omega))]
    rw [in1 (inW_t (by rw [b2]; omega) (by rw [b2, hN]; omega))]
    simp [wsum]
  have c3 : ns 1 (inW (NB W 1) ((500 - K + W - 1).tdiv 1)) [(500, 1), (500 - K, X)] = 2 := by
    rw [tdiv_one']; unfold ns
    rw [in1 (inW_t (by rw [b1]; omega) (by rw [b1, hN]; omega))]
    rw [in1 (inW_t (by rw [b2]; omega) (by rw [b2, hN]; omega))]
    simp [wsum]
  have o1 := over_small (s := 1 + X) (by omega)
  rw [S.q_rs_eq, rs_ok h2 (by omega) (by simp) W false (by omega) (by omega), v1, c1, o1, min_small (by omega : 1 + X ≤ M63)]
  simp only [optK, Bool.or_false]
  by_cases k : K = 0
  · have v2 : vs 1 (inW (NB W 1) ((500 - K + W).tdiv 1)) [(500, 1), (500 - K, X)] = 0 := by
      rw [tdiv_one']; unfold vs
      rw [out1 (inW_f (by rw [b1, hN]; omega))]
      rw [out1 (inW_f (by rw [b2, hN]; omega))]
      simp [wsum]
    have c2 : ns 1 (inW (NB W 1) ((500 - K + W).tdiv 1)) [(500, 1), (500 - K, X)] = 0 := by
      rw [tdiv_one']; unfold ns
      rw [out1 (inW_f (by rw [b1, hN]; omega))]
      rw [out1 (inW_f (by rw [b2, hN]; omega))]
      simp [wsum]
    rw [S.q_rs_eq, rs_ok h2 (by omega) (by simp) W false (by omega) (by omega), v2, c2, over_small (by omega : (0 : Int) ≤ M63), min_small (by omega : (0 : Int) ≤ M63)]
    simp only [optK, Bool.or_false]
    rw [S.q_rs_eq, rs_ok h2 (by omega) (by simp) W false (by omega) (by omega), v3, c3, o1, min_small (by omega : 1 + X ≤ M63)]
    simp [k]
  · have v2 : vs 1 (inW (NB W 1) ((500 - K + W).tdiv 1)) [(500, 1), (500 - K, X)] = 1 := by
      rw [tdiv_one']; unfold vs
      rw [in1 (inW_t (by rw [b1]; omega) (by rw [b1, hN]; omega))]
      rw [out1 (inW_f (by rw [b2, hN]; omega))]
      simp [wsum]
    have c2 : ns 1 (inW (NB W 1) ((500 - K + W).tdiv 1)) [(500, 1), (500 - K, X)] = 1 := by
      rw [tdiv_one']; unfold ns
      rw [in1 (inW_t (by rw [b1]; omega) (by rw [b1, hN]; omega))]
      rw [out1 (inW_f (by rw [b2, hN]; omega))]
      simp [wsum]
    rw [S.q_rs_eq, rs_ok h2 (by omega) (by simp) W false (by omega) (by omega), v2, c2, over_small (by omega : (1 : Int) ≤ M63), min_small (by omega : (1 : Int) ≤ M63)]
    simp only [optK, Bool.or_false]
    rw [S.q_rs_eq, rs_ok h2 (by omega) (by simp) W false (by omega) (by omega), v3, c3, o1, min_small (by omega : 1 + X ≤ M63)]
    simp [k]
end Go.Proofs.Ytmgnfjiogfcieaa.AB
