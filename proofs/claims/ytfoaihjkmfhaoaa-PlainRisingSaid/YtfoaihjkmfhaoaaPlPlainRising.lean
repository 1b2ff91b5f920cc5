/- PlainRising answers true. -/
import Derived.Test.YtfoaihjkmfhaoaaPlPlain
import Derived.Test.YtfoaihjkmfhaoaaSPlainRising
namespace Go.Proofs.Ytfoaihjkmfhaoaa.AB
set_option linter.unusedVariables false
set_option linter.unusedSimpArgs false

theorem cutL_whole' {α : Type} (q : List α) : cutL q 0 q.length = q := by unfold cutL; simp

/-- a rising history -/
structure Rise (q : List (Int × Int)) (T : Int) : Prop where
  all : ∀ x ∈ q, (0 ≤ x.1 ∧ x.1 ≤ T) ∧ 1 ≤ x.2 ∧ x.2 ≤ 40
  top : (q = [] ∧ T = 0) ∨ ∃ x ∈ q, x.1 = T

theorem rising_l0 (fu : Nat) (l : List Int) (len : Nat) (w : Int) (hl : len = l.length) : ∀ (n i : Nat) (T : Int) (q : List (Int × Int)), i ≤ 40 → 40 < n + i → q.length = i → 0 ≤ T → T ≤ 9 * i → Rise q T →
    ∃ (c : Int) (b : Bool) (T' : Int) (q' : List (Int × Int)), S.PlainRising_l0 fu l len w n q.length T i q = some (q'.length, T', c, b, q') ∧ q'.length ≤ 40 ∧ 0 ≤ T' ∧ T' ≤ 360 ∧ Rise q' T' := by
  intro n
  induction n with
  | zero => intro i _ _ _ _ _ _ _ _; omega
  | succ n ih =>
    intro i T q hi hn hq t0 t1 hR
    unfold S.PlainRising_l0
    by_cases c1 : i < len
    · have g1 : ((i : Int) < ((len : Nat) : Int)) := by omega
      by_cases c2 : i < 40
      · have g2 : ((i : Int) < 40) := by omega
        have g3 : inB (i : Int) len = true := by unfold inB; simp; omega
        have g4 : l[Int.toNat (i : Int) + 0]? = some (l[i]'(by omega)) := by simp
        have gw : IntKind.wrap .i64 ((i : Int) + 1) = ((i + 1 : Nat) : Int) := by rw [wrap_id (by omega) (by omega)]; omega
        generalize l[i]'(by omega) = o at g4
        obtain ⟨o0, o1⟩ := umod_range o 10 (by decide)
        have ow : IntKind.wrap .i64 (Int.tmod (IntKind.wrap .u64 o) 10) = Int.tmod (IntKind.wrap .u64 o) 10 := wrap_id (by omega) (by omega)
        have b1 : (Nat.beq 2 2 && Nat.blt 0 16 && Nat.beq 2 2 && Nat.beq 2 2 && Nat.beq 2 2 && Nat.blt 0 1 && !Nat.beq 1 2 && Nat.ble ((q.length + 1) * 16) 35184372088832) = true := by
          have : Nat.ble ((q.length + 1) * 16) 35184372088832 = true := Nat.ble_eq.mpr (by omega)
          rw [this]; rfl
        have ot : IntKind.wrap .i64 (T + Int.tmod (IntKind.wrap .u64 o) 10) = T + Int.tmod (IntKind.wrap .u64 o) 10 := wrap_id (by omega) (by omega)
        simp only [g1, g2, g3, g4, decide_true, cond_true, optK, gw, ow, ot, b1]
        generalize Int.tmod (IntKind.wrap .u64 o) 10 = d at *
        have hc : cutL q 0 q.length ++ cutL [(T + d, ((i + 1 : Nat) : Int))] 0 1 = q ++ [(T + d, ((i + 1 : Nat) : Int))] := by rw [cutL_whole']; rfl
        rw [hc]
        refine ih (i + 1) (T + d) (q ++ [(T + d, ((i + 1 : Nat) : Int))]) (by omega) (by omega) (by simp [hq]) (by omega) (by omega) ⟨fun x hx => ?_, .inr ⟨(T + d, ((i + 1 : Nat) : Int)), by simp, rfl⟩⟩
        simp at hx
        rcases hx with hx | hx
        · have := hR.all x hx; omega
        · subst hx; simp only; omega
      · have g2 : ¬ ((i : Int) < 40) := by omega
        simp only [g1, g2, decide_true, decide_false, cond_true, cond_false]
        exact ⟨_, _, T, q, rfl, by omega, t0, by omega, hR⟩
    · have g1 : ¬ ((i : Int) < ((len : Nat) : Int)) := by omega
      simp only [g1, decide_false, cond_false]
      exact ⟨_, _, T, q, rfl, by omega, t0, by omega, hR⟩

theorem rising_l1 (fu : Nat) (l : List Int) (len : Nat) (w0 w T : Int) (hw : IntKind.wrap .i64 (1 + IntKind.wrap .i64 (Int.tmod (IntKind.wrap .u64 w0) 30)) = w) (w1 : 1 ≤ w) (w2 : w ≤ 30) (t0 : 0 ≤ T) (t1 : T ≤ 360) (q : List (Int × Int)) (hq : q.length ≤ 40) (hR : Rise q T) :
    ∀ (n i : Nat) (s c : Int), i ≤ q.length → q.length < n + i → 0 ≤ s → s ≤ 40 * i → 0 ≤ c → c ≤ i →
    S.PlainRising_l1 fu l len w0 n q.length T s c i q = some (q.length, T, (sumG w T T s c (q.drop i)).1, (sumG w T T s c (q.drop i)).2, (q.length : Int), false, q) := by
  intro n
  induction n with
  | zero => intro i s c _ _ _ _ _ _; omega
  | succ n ih =>
    intro i s c hi hn s0 s1 c0 c1
    unfold S.PlainRising_l1
    rw [hw]
    by_cases c2 : i < q.length
    · have g1 : ((i : Int) < ((q.length : Nat) : Int)) := by omega
      have g2 : inB (i : Int) q.length = true := by unfold inB; simp; omega
      obtain ⟨x, hx⟩ : ∃ x, q[i]? = some x := ⟨q[i]'c2, by simp⟩
      have g3 : q[Int.toNat (i : Int) + 0]? = some x := by simpa using hx
      have gw : IntKind.wrap .i64 ((i : Int) + 1) = ((i + 1 : Nat) : Int) := by rw [wrap_id (by omega) (by omega)]; omega
      have gc : IntKind.wrap .i64 (c + 1) = c + 1 := wrap_id (by omega) (by omega)
      obtain ⟨⟨x0, x1⟩, v0, v1⟩ := hR.all x (List.mem_of_getElem? hx)
      have gs : IntKind.wrap .i64 (s + x.2) = s + x.2 := wrap_id (by omega) (by omega)
      have gt : IntKind.wrap .i64 (T - w) = T - w := wrap_id (by omega) (by omega)
      have ht : Takes x := ⟨⟨x0, by omega⟩, by omega⟩
      have hc : Cnt w T T x ↔ ((x.1 ≤ T ∧ T - x.1 < w) ∧ T - x.1 < w) := ⟨fun h => h.2, fun h => ⟨ht, h⟩⟩
      simp only [g1, g2, g3, decide_true, cond_true, optK, gw, gc, gs, gt]
      rw [getD_drop hx c2]
      unfold sumG
      by_cases k3 : T - w < x.1
      · have : Cnt w T T x := by rw [hc]; omega
        simp only [k3, this, decide_true, cond_true, if_true]
        exact ih (i + 1) (s + x.2) (c + 1) (by omega) (by omega) (by omega) (by omega) (by omega) (by omega)
      · have : ¬ Cnt w T T x := by rw [hc]; omega
        simp only [k3, this, decide_false, cond_false, if_false]
        exact ih (i + 1) s c (by omega) (by omega) s0 (by omega) c0 (by omega)
    · have g1 : ¬ ((i : Int) < ((q.length : Nat) : Int)) := by omega
      have hk2 : i = q.length := by omega
      simp only [g1, decide_false, cond_false]
      rw [List.drop_eq_nil_of_le (by omega), hk2]; rfl

theorem PlainRising_true (l : List Int) (w0 : Int) : S.PlainRising 100000 l l.length w0 = some true := by
  unfold S.PlainRising
  obtain ⟨c, b, T, q, e, hq, t0, t1, hR⟩ := rising_l0 100000 l l.length w0 rfl 100000 0 0 [] (by omega) (by omega) rfl (by omega) (by omega) ⟨fun x hx => (by cases hx), .inl ⟨rfl, rfl⟩⟩
  have e' : S.PlainRising_l0 100000 l l.length w0 100000 0 0 0 [] = some (q.length, T, c, b, q) := e
  rw [e']
  simp only [optK]
  unfold S.PlainRising_a0_0
  obtain ⟨k0, k1⟩ := umod_range w0 30 (by decide)
  obtain ⟨w, hw⟩ : ∃ w, IntKind.wrap .i64 (1 + IntKind.wrap .i64 (Int.tmod (IntKind.wrap .u64 w0) 30)) = w := ⟨_, rfl⟩
  have hw2 : 1 ≤ w ∧ w ≤ 30 := by
    have h1 : IntKind.wrap .i64 (Int.tmod (IntKind.wrap .u64 w0) 30) = Int.tmod (IntKind.wrap .u64 w0) 30 := wrap_id (by omega) (by omega)
    rw [h1, wrap_id (by omega) (by omega)] at hw
    omega
  have hl1 := rising_l1 100000 l l.length w0 w T hw hw2.1 hw2.2 t0 t1 q hq hR 100000 0 0 0 (by omega) (by omega) (by omega) (by omega) (by omega) (by omega)
  have hl1' : S.PlainRising_l1 100000 l l.length w0 100000 q.length T 0 0 0 q = some (q.length, T, (sumG w T T 0 0 q).1, (sumG w T T 0 0 q).2, (q.length : Int), false, q) := hl1
  rw [hl1']
  simp only [optK]
  unfold S.PlainRising_a1_0
  rw [hw]
  have p1 := psum_eq q false w T (by omega) hw2.1 (by omega) t0 (by omega) (fun x hx _ => by have := hR.all x hx; omega)
  have p2 := psum_neg q false w (-1) hw2.1 (by omega) (by decide)
  have hsame : sumG w (newestF (-1) q) T 0 0 q = sumG w T T 0 0 q := by
    rcases hR.top with ⟨h1, _⟩ | ⟨x, hx, hxT⟩
    · rw [h1]; rfl
    · have ht : Takes x := by have := hR.all x hx; exact ⟨⟨by omega, by omega⟩, by omega⟩
      have h1 := (newest_le q (-1)).2 x hx ht
      have h2 := newest_top q (-1) T (by omega) (fun y hy _ => by have := hR.all y hy; omega)
      have : newestF (-1) q = T := by omega
      rw [this]
  rw [hsame] at p1
  simp only [S.q_psum_eq, p1, p2, optK, decide_true, cond_true]
end Go.Proofs.Ytfoaihjkmfhaoaa.AB
