/- The laws of layer 1, plainly. -/
import Derived.Test.YtjbdlnomjkhhbaaPlUpDown
import Derived.Test.YtjbdlnomjkhhbaaPlRmul
import Derived.Test.YtjbdlnomjkhhbaaSlaw1
namespace Go.Proofs.Ytjbdlnomjkhhbaa.AB
set_option linter.unusedVariables false
set_option linter.unusedSimpArgs false

theorem MilliClamps_true (a b c : Int) : S.MilliClamps a b c = true := by
  unfold S.MilliClamps
  have hlo : ∃ lo, lo = (if c < b then c else b) := ⟨_, rfl⟩
  have hhi : ∃ hi, hi = (if c > b then c else b) := ⟨_, rfl⟩
  obtain ⟨lo, hlo⟩ := hlo
  obtain ⟨hi, hhi⟩ := hhi
  rw [← hlo, ← hhi]
  have h : lo ≤ hi := by subst hlo hhi; split <;> split <;> omega
  have hc : ∀ x, S.mclamp x lo hi = if hi < x then hi else if x < lo then lo else x := by
    intro x; unfold S.mclamp; by_cases h1 : hi < x <;> by_cases h2 : x < lo <;> simp [h1, h2]
  simp only [hc]
  by_cases h1 : hi < a
  · have h2 : ¬ hi < hi := by omega
    have h3 : ¬ hi < lo := by omega
    simp [h1, h2, h3, h]
  · by_cases h2 : a < lo
    · have h3 : ¬ lo < lo := by omega
      have h4 : ¬ hi < lo := by omega
      simp [h1, h2, h3, h4, h]
    · have h3 : lo ≤ a := by omega
      have h4 : a ≤ hi := by omega
      simp [h1, h2, h3, h4, h]

theorem rup_all (a b : Int) : S.rup a b = some (upF a b) := by
  rw [← mup_all]
  unfold S.rup S.mup S.mhalf
  by_cases h1 : b = 0
  · simp [h1, optK]
  · by_cases h2 : a = -9223372036854775808
    · by_cases h3 : b = -1
      · simp [h2, h3, optK]
      · by_cases h4 : Int.tmod (-9223372036854775808) b = 0 <;> by_cases h5 : b < 0 <;> simp [h1, h2, h3, h4, h5, optK]
    · by_cases h4 : Int.tmod a b = 0 <;> by_cases h5 : a < 0 <;> by_cases h6 : b < 0 <;> simp [h1, h2, h4, h5, h6, optK]

theorem rdown_all (a b : Int) : S.rdown a b = some (downF a b) := by
  rw [← mdown_all]
  unfold S.rdown S.mdown S.mhalf
  by_cases h1 : b = 0
  · simp [h1, optK]
  · by_cases h2 : a = -9223372036854775808
    · by_cases h3 : b = -1
      · simp [h2, h3, optK]
      · by_cases h4 : Int.tmod (-9223372036854775808) b = 0 <;> by_cases h5 : b < 0 <;> simp [h1, h2, h3, h4, h5, optK]
    · by_cases h4 : Int.tmod a b = 0 <;> by_cases h5 : a < 0 <;> by_cases h6 : b < 0 <;> simp [h1, h2, h4, h5, h6, optK]

theorem radd_eq (a b : Int) : S.radd a b = S.madd a b := by
  unfold S.radd S.madd S.mend
  by_cases h : 0 < b
  · have h' : ¬ b < 0 := by omega
    simp [h, h']
  · simp [h]

theorem MilliAsks_true (a b lo hi : Int) (a0 : -9223372036854775808 ≤ a) (a1 : a < 9223372036854775808) (b0 : -9223372036854775808 ≤ b) (b1 : b < 9223372036854775808) : S.MilliAsks a b lo hi = some true := by
  unfold S.MilliAsks
  rw [mmul_eq a0 a1 b0 b1, mup_all, rup_all, mdown_all, rdown_all, rmul_eq a0 a1 b0 b1, radd_eq, rsub_eq]
  have e : S.mclamp a lo hi = S.rclamp a lo hi := rfl
  simp [optK, e]

theorem mulS_in {a b : Int} (h0 : -9223372036854775808 ≤ a * b / 1000) (h1 : a * b / 1000 ≤ 9223372036854775807) : mulS a b = (a * b / 1000, 0) := by
  unfold mulS; rw [if_neg (by omega), if_neg (by omega)]

theorem prod_bound {x y m : Int} (hm : 0 ≤ m) (x0 : -m ≤ x) (x1 : x ≤ m) (y0 : -m ≤ y) (y1 : y ≤ m) : -(m * m) ≤ x * y ∧ x * y ≤ m * m := by
  have h : ∀ u v : Int, 0 ≤ u → u ≤ m → 0 ≤ v → v ≤ m → 0 ≤ u * v ∧ u * v ≤ m * m := fun u v h1 h2 h3 h4 => ⟨Int.mul_nonneg h1 h3, Int.mul_le_mul h2 h4 h3 hm⟩
  rcases Int.le_total 0 x with hx | hx <;> rcases Int.le_total 0 y with hy | hy
  · have := h x y hx x1 hy y1; omega
  · have := h x (-y) hx x1 (by omega) (by omega); rw [Int.mul_neg] at this; omega
  · have := h (-x) y (by omega) (by omega) hy y1; rw [Int.neg_mul] at this; omega
  · have := h (-x) (-y) (by omega) (by omega) (by omega) (by omega); rw [Int.neg_mul_neg] at this; omega

theorem tmod_bound (a m : Int) (hm : 0 < m) : -m < a.tmod m ∧ a.tmod m < m := ⟨Int.lt_tmod_of_pos a hm, Int.tmod_lt_of_pos a hm⟩

theorem MilliParts_true (a b c : Int) : S.MilliParts a b c = some true := by
  unfold S.MilliParts
  obtain ⟨a0, a1⟩ := tmod_bound a 1000000 (by decide)
  obtain ⟨b0, b1⟩ := tmod_bound b 1000000 (by decide)
  obtain ⟨c0, c1⟩ := tmod_bound c 1000000 (by decide)
  generalize a.tmod 1000000 = x at *
  generalize b.tmod 1000000 = y at *
  generalize c.tmod 1000000 = z at *
  obtain ⟨p0, p1⟩ := prod_bound (x := x) (y := z) (m := 2000000) (by decide) (by omega) (by omega) (by omega) (by omega)
  obtain ⟨q0, q1⟩ := prod_bound (x := y) (y := z) (m := 2000000) (by decide) (by omega) (by omega) (by omega) (by omega)
  have w : IntKind.i64.wrap (x + y) = x + y := wrap_id (by omega) (by omega)
  rw [w, mmul_eq (by omega) (by omega) (by omega) (by omega), mmul_eq (by omega) (by omega) (by omega) (by omega), mmul_eq (a := x + y) (by omega) (by omega) (by omega) (by omega)]
  have e : (x + y) * z = x * z + y * z := Int.add_mul x y z
  rw [mulS_in (a := x) (by omega) (by omega), mulS_in (a := y) (by omega) (by omega), mulS_in (a := x + y) (by rw [e]; omega) (by rw [e]; omega), e]
  generalize x * z = p at *
  generalize y * z = q at *
  simp only [optK]
  have w2 : IntKind.i64.wrap (IntKind.i64.wrap ((p + q) / 1000 - p / 1000) - q / 1000) = (p + q) / 1000 - p / 1000 - q / 1000 := by simp only [IntKind.wrap_i64]; omega
  rw [w2]
  have h1 : 0 ≤ (p + q) / 1000 - p / 1000 - q / 1000 := by omega
  have h2 : (p + q) / 1000 - p / 1000 - q / 1000 ≤ 1 := by omega
  have h3 : IntKind.i64.wrap (IntKind.i64.wrap (0 + 0) + 0) = 0 := by decide
  simp only [h1, h2, h3, decide_true, cond_true]

theorem MilliBack_true (a b : Int) (a0 : -9223372036854775808 ≤ a) (a1 : a < 9223372036854775808) (b0 : -9223372036854775808 ≤ b) (b1 : b < 9223372036854775808) : S.MilliBack a b = some true := by
  unfold S.MilliBack
  have hm : S.mmul a 1000 = some (a, 0) := by
    rw [mmul_eq a0 a1 (by decide) (by decide), mulS_in (by omega) (by omega)]
    have : a * 1000 / 1000 = a := by omega
    rw [this]
  have hu : upF a 1 = (a, 0) := by
    have h : halfF a 1 = (a, 0) := by unfold halfF; rw [if_neg (by decide), if_neg (by omega), Int.tdiv_one, wrap_id a0 a1]
    unfold upF; rw [h, Int.tmod_one]; simp
  have hd : downF a 1 = (a, 0) := by
    have h : halfF a 1 = (a, 0) := by unfold halfF; rw [if_neg (by decide), if_neg (by omega), Int.tdiv_one, wrap_id a0 a1]
    unfold downF; rw [h, Int.tmod_one]; simp
  have ha : a ≠ 0 → halfF a a = (1, 0) := fun hz => by
    unfold halfF; rw [if_neg hz, if_neg (by omega), Int.tdiv_self hz, wrap_id (by decide) (by decide)]
  have hua : a ≠ 0 → upF a a = (1, 0) := fun hz => by unfold upF; rw [ha hz, Int.tmod_self]; simp
  have hda : a ≠ 0 → downF a a = (1, 0) := fun hz => by unfold downF; rw [ha hz, Int.tmod_self]; simp
  rw [madd_eq a0 a1 b0 b1, hm]
  simp only [mup_all, mdown_all, hu, hd, optK]
  by_cases hz : a = 0
  · by_cases hr : -9223372036854775808 ≤ a + b ∧ a + b < 9223372036854775808
    · rw [satC_in hr.1 hr.2]
      simp only [msub_eq hr.1 hr.2 b0 b1]
      rw [satC_in (by omega) (by omega)]
      have e : a + b - b = a := by omega
      simp [e, hz]
    · exact absurd ⟨by omega, by omega⟩ hr
  · by_cases hr : -9223372036854775808 ≤ a + b ∧ a + b < 9223372036854775808
    · rw [satC_in hr.1 hr.2]
      simp only [msub_eq hr.1 hr.2 b0 b1]
      rw [satC_in (by omega) (by omega)]
      have e : a + b - b = a := by omega
      simp [e, hz, hua hz, hda hz]
    · have h2 : (satC (a + b)).2 = 2 := by unfold satC; rw [if_neg hr]
      simp [h2, hz, hua hz, hda hz]

theorem MilliOrders_true (a b : Int) (a0 : -9223372036854775808 ≤ a) (a1 : a < 9223372036854775808) (b0 : -9223372036854775808 ≤ b) (b1 : b < 9223372036854775808) : S.MilliOrders a b = some true := by
  unfold S.MilliOrders
  have hc : mulS b a = mulS a b := by unfold mulS; rw [Int.mul_comm]
  rw [mmul_eq a0 a1 b0 b1, mmul_eq b0 b1 a0 a1, madd_eq a0 a1 b0 b1, madd_eq b0 b1 a0 a1, hc, Int.add_comm b a]
  simp only [optK, iff_beq]
  have ha : (satC (a + b)).2 = 0 ∨ ((satC (a + b)) = (9223372036854775807, 2) ∧ 0 < a ∧ 0 < b) ∨ ((satC (a + b)) = (-9223372036854775808, 2) ∧ a < 0 ∧ b < 0) := by
    by_cases h1 : 9223372036854775807 < a + b
    · exact .inr (.inl ⟨satC_over h1, by omega, by omega⟩)
    · by_cases h2 : a + b < -9223372036854775808
      · exact .inr (.inr ⟨satC_under h2, by omega, by omega⟩)
      · left; rw [satC_in (by omega) (by omega)]
  have hm : (mulS a b).2 = 0 ∨ (mulS a b = (9223372036854775807, 2) ∧ (0 < a ↔ 0 < b)) ∨ (mulS a b = (-9223372036854775808, 2) ∧ ¬ (0 < a ↔ 0 < b)) := by
    have hs : 0 < a * b → (0 < a ↔ 0 < b) := by
      intro h
      constructor
      · intro h1; exact Int.pos_of_mul_pos_left (by rwa [Int.mul_comm] at h) h1 |> fun x => x
      · intro h1; exact Int.pos_of_mul_pos_left h h1 |> fun x => x
    have hn : a * b < 0 → ¬ (0 < a ↔ 0 < b) := by
      intro h k
      by_cases h1 : 0 < a
      · have := Int.mul_pos h1 (k.mp h1); omega
      · have h2 : ¬ 0 < b := fun h2 => h1 (k.mpr h2)
        have := Int.mul_nonneg_of_nonpos_of_nonpos (a := a) (b := b) (by omega) (by omega); omega
    unfold mulS
    by_cases h1 : 9223372036854775807 < a * b / 1000
    · rw [if_pos h1]; exact .inr (.inl ⟨rfl, hs (by omega)⟩)
    · rw [if_neg h1]
      by_cases h2 : a * b / 1000 < -9223372036854775808
      · rw [if_pos h2]; exact .inr (.inr ⟨rfl, hn (by omega)⟩)
      · rw [if_neg h2]; left; rfl
  rcases ha with h | ⟨h, h1, h2⟩ | ⟨h, h1, h2⟩ <;> rcases hm with k | ⟨k, k1⟩ | ⟨k, k1⟩
  · simp [h, k]
  · simp [h, k, k1]
  · simp [h, k, k1]
  · simp [h, h1, h2, k]
  · simp [h, h1, h2, k]
  · exact absurd (by simp [h1, h2]) k1
  · have h3 : ¬ 0 < a := by omega
    have h4 : ¬ 0 < b := by omega
    simp [h, h1, h2, h3, h4, k]
  · have h3 : ¬ 0 < a := by omega
    have h4 : ¬ 0 < b := by omega
    simp [h, h1, h2, h3, h4, k]
  · have h3 : ¬ 0 < a := by omega
    have h4 : ¬ 0 < b := by omega
    exact absurd (by simp [h3, h4]) k1

theorem MilliSmall_true (a b : Int) : S.MilliSmall a b = some true := by
  unfold S.MilliSmall
  obtain ⟨a0, a1⟩ := tmod_bound a 1000000000 (by decide)
  obtain ⟨b0, b1⟩ := tmod_bound b 1000000000 (by decide)
  generalize a.tmod 1000000000 = x at *
  generalize b.tmod 1000000000 = y at *
  obtain ⟨p0, p1⟩ := prod_bound (x := x) (y := y) (m := 1000000000) (by decide) (by omega) (by omega) (by omega) (by omega)
  rw [mmul_eq (by omega) (by omega) (by omega) (by omega), mulS_in (by omega) (by omega), madd_eq (by omega) (by omega) (by omega) (by omega), satC_in (by omega) (by omega)]
  simp only [optK]
  rw [msub_eq (by omega) (by omega) (by omega) (by omega), satC_in (by omega) (by omega), wrap_id (n := x + y) (by omega) (by omega), wrap_id (n := x * y) (by omega) (by omega), wrap_id (n := x * y / 1000 * 1000) (by omega) (by omega), wrap_id (n := x * y - x * y / 1000 * 1000) (by omega) (by omega)]
  have e1 : x + y - y = x := by omega
  have e2 : ¬ (x * y - x * y / 1000 * 1000 < 0) := by omega
  have e3 : ¬ (999 < x * y - x * y / 1000 * 1000) := by omega
  simp only [e1, e2, e3, decide_true, decide_false, Bool.not_true, cond_true, cond_false, mup_all, mdown_all]
  by_cases hy : y = 0
  · simp [hy]
  · obtain ⟨f1, f2, f3, f4, f5, f6⟩ := tdiv_facts x y hy
    have hh := halfF_in x y hy (by omega) (by omega)
    have hub : ∀ q : Int, IntKind.i64.wrap q = q ∨ True := fun _ => .inr trivial
    generalize hq : x.tdiv y = q at *
    generalize hr : x.tmod y = r at *
    have hq0 : -1000000000 < q ∧ q < 1000000000 := by omega
    have hu : upF x y = (if r ≠ 0 ∧ (x < 0 ↔ y < 0) then q + 1 else q, 0) := by
      unfold upF; rw [hh, hr]
      by_cases h1 : r ≠ 0 ∧ (x < 0 ↔ y < 0)
      · rw [if_pos ⟨rfl, h1⟩, if_pos h1, wrap_id (by simp only; omega) (by simp only; omega)]
      · rw [if_neg (fun h => h1 h.2), if_neg h1]
    have hd : downF x y = (if r ≠ 0 ∧ ¬(x < 0 ↔ y < 0) then q - 1 else q, 0) := by
      unfold downF; rw [hh, hr]
      by_cases h1 : r ≠ 0 ∧ ¬(x < 0 ↔ y < 0)
      · rw [if_pos ⟨rfl, h1⟩, if_pos h1, wrap_id (by simp only; omega) (by simp only; omega)]
      · rw [if_neg (fun h => h1 h.2), if_neg h1]
    rw [hu, hd]
    simp only [hy, optK, decide_true, decide_false, cond_true, cond_false]
    generalize hU : (if r ≠ 0 ∧ (x < 0 ↔ y < 0) then q + 1 else q) = U
    generalize hV : (if r ≠ 0 ∧ ¬(x < 0 ↔ y < 0) then q - 1 else q) = V
    have hUV : (r = 0 ∧ U = q ∧ V = q) ∨ (r ≠ 0 ∧ (x < 0 ↔ y < 0) ∧ U = q + 1 ∧ V = q) ∨ (r ≠ 0 ∧ ¬(x < 0 ↔ y < 0) ∧ U = q ∧ V = q - 1) := by
      subst hU hV
      by_cases h1 : r = 0
      · left; simp [h1]
      · by_cases h2 : (x < 0 ↔ y < 0)
        · right; left; simp [h1, h2]
        · right; right; simp [h1, h2]
    have m1 : U * y = q * y ∨ U * y = q * y + y := by
      rcases hUV with ⟨_, h, _⟩ | ⟨_, _, h, _⟩ | ⟨_, _, h, _⟩ <;> rw [h]
      · exact .inl rfl
      · right; rw [Int.add_mul]; omega
      · exact .inl rfl
    have m2 : V * y = q * y ∨ V * y = q * y - y := by
      rcases hUV with ⟨_, _, h⟩ | ⟨_, _, _, h⟩ | ⟨_, _, _, h⟩ <;> rw [h]
      · exact .inl rfl
      · exact .inl rfl
      · right; rw [Int.sub_mul]; omega
    have n1 : (r = 0 → U * y = q * y ∧ V * y = q * y) ∧ (r ≠ 0 → (x < 0 ↔ y < 0) → U * y = q * y + y ∧ V * y = q * y) ∧ (r ≠ 0 → ¬(x < 0 ↔ y < 0) → U * y = q * y ∧ V * y = q * y - y) := by
      refine ⟨fun h => ?_, fun h k => ?_, fun h k => ?_⟩
      · rcases hUV with ⟨_, h1, h2⟩ | ⟨g, _⟩ | ⟨g, _⟩
        · rw [h1, h2]; exact ⟨rfl, rfl⟩
        · exact absurd h g
        · exact absurd h g
      · rcases hUV with ⟨g, _⟩ | ⟨_, _, h1, h2⟩ | ⟨_, g, _⟩
        · exact absurd g h
        · rw [h1, h2, Int.add_mul]; omega
        · exact absurd k g
      · rcases hUV with ⟨g, _⟩ | ⟨_, g, _⟩ | ⟨_, _, h1, h2⟩
        · exact absurd g h
        · exact absurd g k
        · rw [h1, h2, Int.sub_mul]; omega
    have hUr : -2000000000 ≤ U ∧ U ≤ 2000000000 := by omega
    have hVr : -2000000000 ≤ V ∧ V ≤ 2000000000 := by omega
    have hUVd : (U = V ↔ r = 0) ∧ 0 ≤ U - V ∧ U - V ≤ 1 := by omega
    obtain ⟨u0, u1⟩ := prod_bound (x := U) (y := y) (m := 2000000000) (by decide) (by omega) (by omega) (by omega) (by omega)
    obtain ⟨v0, v1⟩ := prod_bound (x := V) (y := y) (m := 2000000000) (by decide) (by omega) (by omega) (by omega) (by omega)
    rw [wrap_id (n := U - V) (by omega) (by omega), wrap_id (n := U * y) (by omega) (by omega), wrap_id (n := V * y) (by omega) (by omega)]
    clear hu hd hU hV hUV m1 m2 hh hub
    generalize U * y = uy at *
    generalize V * y = vy at *
    generalize q * y = qy at *
    obtain ⟨d1, d2, d3⟩ := hUVd
    have d4 : (decide (U = V) == decide (r = 0)) = true := by rw [iff_beq]; simpa using d1
    simp only [d2, d3, d4, decide_true, cond_true]
    rcases Int.lt_or_gt_of_ne hy with h | h
    · have k1 : ¬ 0 < y := by omega
      have g1 : uy ≤ x := by
        by_cases h1 : r = 0
        · have := n1.1 h1; omega
        · by_cases h2 : (x < 0 ↔ y < 0)
          · have := n1.2.1 h1 h2; omega
          · have := n1.2.2 h1 h2; omega
      have g2 : x ≤ vy := by
        by_cases h1 : r = 0
        · have := n1.1 h1; omega
        · by_cases h2 : (x < 0 ↔ y < 0)
          · have := n1.2.1 h1 h2; omega
          · have := n1.2.2 h1 h2; omega
      simp [h, k1, g1, g2]
    · have g1 : x ≤ uy := by
        by_cases h1 : r = 0
        · have := n1.1 h1; omega
        · by_cases h2 : (x < 0 ↔ y < 0)
          · have := n1.2.1 h1 h2; omega
          · have := n1.2.2 h1 h2; omega
      have g2 : vy ≤ x := by
        by_cases h1 : r = 0
        · have := n1.1 h1; omega
        · by_cases h2 : (x < 0 ↔ y < 0)
          · have := n1.2.1 h1 h2; omega
          · have := n1.2.2 h1 h2; omega
      have h' : 0 < y := h
      simp [h', g1, g2]
end Go.Proofs.Ytjbdlnomjkhhbaa.AB
