/- RingGrains answers true. -/
import Derived.Test.YtmgnfjiogfcieaaPlRingL
import Derived.Test.YtmgnfjiogfcieaaSRingGrains
namespace Go.Proofs.Ytmgnfjiogfcieaa.AB
set_option linter.unusedVariables false
set_option linter.unusedSimpArgs false

/-- a quotient, by products -/
theorem tdiv_in {a g : Int} (a0 : 0 ≤ a) (g1 : 1 ≤ g) : g * a.tdiv g ≤ a ∧ a < g * a.tdiv g + g := by
  have h1 := Int.mul_tdiv_add_tmod a g
  have h2 := Int.tmod_nonneg g a0
  have h3 := Int.tmod_lt_of_pos a (b := g) (by omega)
  omega

theorem RingGrains_true (w g a : Int) : S.RingGrains w g a = some true := by
  obtain ⟨y, hy, y0, y1⟩ := um w (m := 60) (by omega) (by omega)
  obtain ⟨W, hW⟩ : ∃ W, W = 1 + y := ⟨_, rfl⟩
  obtain ⟨z, hz, z0, z1⟩ := um g (m := W) (by omega) (by omega)
  obtain ⟨G, hG⟩ : ∃ G, G = 1 + z := ⟨_, rfl⟩
  obtain ⟨A, hA, A0, A1⟩ := um a (m := 200) (by omega) (by omega)
  have hM : M63 = 9223372036854775807 := rfl
  have hu : IntKind.wrap .u64 W = W := wrap_u (by omega) (by omega)
  have hr : Rok W G := ⟨⟨by omega, by omega⟩, by omega⟩
  have nz : ¬ W = 0 := by omega
  have ng : ¬ G = 0 := by omega
  unfold S.RingGrains
  rw [hy, wrap_id (n := 1 + y) (by omega) (by omega), ← hW, hu, hz, wrap_id (n := 1 + z) (by omega) (by omega), ← hG, hA, wrap_id (n := 1000 + A) (by omega) (by omega), wrap_id (n := W + G) (by omega) (by omega), wrap_id (n := W - G) (by omega) (by omega), S.q_pring_eq, new_yes hr]
  simp only [optK, Sum.elim_inr, nz, ng, decide_false, cond_false]
  obtain ⟨N, hN⟩ : ∃ N, N = NB W G := ⟨_, rfl⟩
  have hNb := NB_b (w := W) (g := G) (by omega) (by omega) (by omega)
  have hND := tdiv_in (a := W + G - 1) (g := G) (by omega) (by omega)
  have hN' : (W + G - 1).tdiv G = N := by rw [hN]; rfl
  rw [hN'] at hND
  obtain ⟨c, hc⟩ : ∃ c, c = (1000 : Int).tdiv G := ⟨_, rfl⟩
  obtain ⟨e, he⟩ : ∃ e, e = (1000 + A).tdiv G := ⟨_, rfl⟩
  have hcD := tdiv_in (a := 1000) (g := G) (by omega) (by omega)
  have heD := tdiv_in (a := 1000 + A) (g := G) (by omega) (by omega)
  have hcb := tdv (a := 1000) (g := G) (by omega) (by omega)
  have heb := tdv (a := 1000 + A) (g := G) (by omega) (by omega)
  rw [← hc] at hcD hcb
  rw [← he] at heD heb
  have b1 : bk G ((1000 : Int), (7 : Int)) = c := by rw [hc]; rfl
  obtain ⟨n1, l1, f1, e1, h1⟩ := rp1_ok hr (nw := -1) (by omega) (by omega) (x := (1000, 7)) (mk_tk (by omega) (by omega) (by omega) (by omega)) false
  have p1 : pnw G (-1) (1000, 7) = c := by rw [pnw_new (by rw [b1]; omega), b1]
  have r1 : pR G (NB W G) (-1) (1000, 7) [] = [(1000, 7)] := pR_snoc (R := []) (by rw [b1]; omega) (fun y hy => by simp at hy; subst hy; rw [p1, b1]; omega)
  rw [p1, r1] at h1
  rw [p1] at e1
  rw [S.q_rp1_eq, e1]
  simp only [optK, decide_true, Bool.not_true, cond_false]
  rw [S.q_rs_eq, rs_ok h1 (by omega) (by simp) W false (by omega) (by omega)]
  simp only [optK, S.rz]
  rw [← hN, ← he]
  -- numbers
  have hle : c ≤ e := by rw [hc, he]; exact Int.tdiv_le_tdiv (by omega) (by omega)
  have hGc : G * (e - c) = G * e - G * c := Int.mul_sub ..
  have key : (e - c < N → G * (e - c) ≤ G * N - G) ∧ (¬ e - c < N → G * N ≤ G * (e - c)) := by
    refine ⟨fun h => ?_, fun h => Int.mul_le_mul_of_nonneg_left (by omega) (by omega)⟩
    have : G * (e - c) ≤ G * (N - 1) := Int.mul_le_mul_of_nonneg_left (by omega) (by omega)
    rw [Int.mul_sub G N 1, Int.mul_one] at this; exact this
  have hNG : N * G = G * N := Int.mul_comm ..
  have hN1G : (N - 1) * G = G * N - G := by rw [Int.sub_mul, Int.one_mul, hNG]
  have hfirst : G * (e - N + 1) = G * e - G * N + G := by rw [Int.mul_add, Int.mul_sub, Int.mul_one]
  have w1 : IntKind.wrap .i64 (e) = e := wrap_id (by omega) (by omega)
  have w2 : IntKind.wrap .i64 (e - N) = e - N := wrap_id (by omega) (by omega)
  have w3 : IntKind.wrap .i64 (e - N + 1) = e - N + 1 := wrap_id (by omega) (by omega)
  have w4 : IntKind.wrap .i64 (N - 1) = N - 1 := wrap_id (by omega) (by omega)
  have w5 : IntKind.wrap .i64 (G * N) = G * N := wrap_id (by omega) (by omega)
  have w6 : IntKind.wrap .i64 (G * N - G) = G * N - G := wrap_id (by omega) (by omega)
  have w7 : IntKind.wrap .i64 (G * e - G * N + G) = G * e - G * N + G := wrap_id (by omega) (by omega)
  simp only [w1, w2, w3, w4, hfirst, hNG, hN1G, w5, w6, w7]
  have q1 : W ≤ G * N := by omega
  have q2 : G * N - G < W := by omega
  by_cases k : e - c < N
  · have cc : ns G (inW N e) [(1000, 7)] = 1 := by
      unfold ns; rw [in1 (inW_t (by rw [b1]; exact hle) (by rw [b1]; exact k))]; simp [wsum]
    have k1 := key.1 k
    have q3 : G * e - G * N + G ≤ 1000 := by omega
    have q4 : A < W + G := by omega
    rw [cc]
    simp only [q1, q2, q3, q4, decide_true, cond_true]
    by_cases k2 : W ≤ A <;> simp [k2]
  · have cc : ns G (inW N e) [(1000, 7)] = 0 := by
      unfold ns; rw [out1 (inW_f (fun _ => by rw [b1]; exact k))]; simp [wsum]
    have k1 := key.2 k
    have q3 : ¬ G * e - G * N + G ≤ 1000 := by
      intro h
      have h4 : G * (e - N + 1) ≤ 1000 := by rw [hfirst]; exact h
      have h5 : G * (c + 1) ≤ G * (e - N + 1) := Int.mul_le_mul_of_nonneg_left (by omega) (by omega)
      rw [Int.mul_add, Int.mul_one] at h5; omega
    have q4 : W - G < A := by
      have h5 : G * (c + 1) ≤ G * (e - N + 1) := Int.mul_le_mul_of_nonneg_left (by omega) (by omega)
      rw [Int.mul_add, Int.mul_one, hfirst] at h5
      omega
    rw [cc]
    simp only [q1, q2, q3, q4, decide_true, decide_false, cond_true, cond_false]
    by_cases k2 : W ≤ A <;> by_cases k3 : A < W + G <;> simp [k2, k3]
end Go.Proofs.Ytmgnfjiogfcieaa.AB
