/- RingForgets answers true. -/
import Derived.Test.YtmgnfjiogfcieaaPlRingL
import Derived.Test.YtmgnfjiogfcieaaSRingForgets
namespace Go.Proofs.Ytmgnfjiogfcieaa.AB
set_option linter.unusedVariables false
set_option linter.unusedSimpArgs false

theorem RingForgets_true (w v b : Int) : S.RingForgets w v b = some true := by
  obtain ⟨y, hy, y0, y1⟩ := um w (m := 60) (by omega) (by omega)
  obtain ⟨W, hW⟩ : ∃ W, W = 1 + y := ⟨_, rfl⟩
  obtain ⟨X, hX, X0, X1⟩ := um v (m := 1000000) (by omega) (by omega)
  obtain ⟨B, hB, B0, B1⟩ := um b (m := 50) (by omega) (by omega)
  have hM : M63 = 9223372036854775807 := rfl
  have hN := NB_one W
  have hr := rok1 (w := W) (by omega) (by omega)
  unfold S.RingForgets
  rw [hy, wrap_id (n := 1 + y) (by omega) (by omega), ← hW, hX, hB, wrap_id (n := 100 + W) (by omega) (by omega), wrap_id (n := 100 - B) (by omega) (by omega), S.q_pring_eq, new_yes hr]
  simp only [optK, Sum.elim_inr]
  have b1 : bk 1 ((100 : Int), X) = 100 := bk_one _
  have b2 : bk 1 (100 + W, (5 : Int)) = 100 + W := bk_one _
  have b3 : bk 1 (100 - B, (9 : Int)) = 100 - B := bk_one _
  obtain ⟨n1, l1, f1, e1, h1⟩ := rp1_ok hr (nw := -1) (by omega) (by omega) (x := (100, X)) (mk_tk (by omega) (by omega) (by omega) (by omega)) false
  have p1 : pnw 1 (-1) (100, X) = 100 := by rw [pnw_new (by rw [b1]; omega), b1]
  have r1 : pR 1 (NB W 1) (-1) (100, X) [] = [(100, X)] := pR_snoc (R := []) (by rw [b1, hN]; omega) (fun y hy => by simp at hy; subst hy; rw [p1, b1, hN]; omega)
  rw [p1, r1] at h1
  rw [p1] at e1
  rw [S.q_rp1_eq, e1]
  simp only [optK, decide_true, Bool.not_true, cond_false]
  obtain ⟨lo2, n2, l2, f2, e2, h2⟩ := rp_ok h1 hr (by omega) (by omega) (x := (100 + W, 5)) (mk_tk (by omega) (by omega) (by omega) (by omega)) (by simp) false
  have p2 : pnw 1 100 (100 + W, 5) = 100 + W := by rw [pnw_new (by rw [b2]; omega), b2]
  have r2 : pR 1 (NB W 1) 100 (100 + W, 5) [(100, X)] = [(100 + W, 5)] := pR_only (R := [(100, X)]) (by rw [b2, hN]; omega) (fun y hy => by
    simp at hy; subst hy; rw [p2, b1, hN]; omega) (by rw [p2, b2, hN]; omega)
  rw [p2, r2] at h2
  rw [p2] at e2
  rw [S.q_rp_eq, e2]
  simp only [optK, decide_true, Bool.not_true, cond_false]
  have v1 : vs 1 (inW (NB W 1) ((100 : Int).tdiv 1)) [(100 + W, 5)] = 0 := by
    rw [tdiv_one']; unfold vs
    rw [out1 (inW_f (by rw [b2, hN]; omega))]
    simp [wsum]
  have c1 : ns 1 (inW (NB W 1) ((100 : Int).tdiv 1)) [(100 + W, 5)] = 0 := by
    rw [tdiv_one']; unfold ns
    rw [out1 (inW_f (by rw [b2, hN]; omega))]
    simp [wsum]
  have v2 : vs 1 (inW (NB W 1) ((100 + W).tdiv 1)) [(100 + W, 5)] = 5 := by
    rw [tdiv_one']; unfold vs
    rw [in1 (inW_t (by rw [b2]; omega) (by rw [b2, hN]; omega))]
    simp [wsum]
  have c2 : ns 1 (inW (NB W 1) ((100 + W).tdiv 1)) [(100 + W, 5)] = 1 := by
    rw [tdiv_one']; unfold ns
    rw [in1 (inW_t (by rw [b2]; omega) (by rw [b2, hN]; omega))]
    simp [wsum]
  have v3 : vs 1 (inW (NB W 1) ((100 - B).tdiv 1)) [(100 + W, 5)] = 0 := by
    rw [tdiv_one']; unfold vs
    rw [out1 (inW_f (by rw [b2, hN]; omega))]
    simp [wsum]
  have c3 : ns 1 (inW (NB W 1) ((100 - B).tdiv 1)) [(100 + W, 5)] = 0 := by
    rw [tdiv_one']; unfold ns
    rw [out1 (inW_f (by rw [b2, hN]; omega))]
    simp [wsum]
  have o0 := over_small (s := 0) (by omega)
  have o5 := over_small (s := 5) (by omega)
  have m0 : min M63 0 = 0 := min_small (by omega)
  have m5 : min M63 5 = 5 := min_small (by omega)
  rw [S.q_rs_eq, rs_ok h2 (by omega) (by simp) W false (by omega) (by omega), v1, c1, o0, m0]
  simp only [optK, Bool.or_false]
  obtain ⟨lo3, n3, l3, f3, e3, h3⟩ := rp_ok h2 hr (by omega) (by omega) (x := (100 - B, 9)) (mk_tk (by omega) (by omega) (by omega) (by omega)) (by simp) false
  have p3 : pnw 1 (100 + W) (100 - B, 9) = 100 + W := pnw_old (by rw [b3]; omega)
  have r3 : pR 1 (NB W 1) (100 + W) (100 - B, 9) [(100 + W, 5)] = [(100 + W, 5)] := pR_late (by rw [b3, hN]; omega)
  rw [p3, r3] at h3
  rw [p3] at e3
  rw [S.q_rp_eq, e3]
  simp only [optK]
  rw [S.q_rs_eq, rs_ok h3 (by omega) (by simp) W false (by omega) (by omega), v2, c2, o5, m5]
  simp only [optK, Bool.or_false]
  rw [S.q_rs_eq, rs_ok h3 (by omega) (by simp) W false (by omega) (by omega), v3, c3, o0, m0]
  simp
end Go.Proofs.Ytmgnfjiogfcieaa.AB
