/- The two windows: what is put, what is asked. -/
import Derived.Test.YtdflpflffccmgaaPlNums
import Derived.Test.YtdflpflffccmgaaPlRings
import Derived.Test.YtdflpflffccmgaaPlRing5
import Derived.Test.YtdflpflffccmgaaSmetricz
namespace Go.Proofs.Ytdflpflffccmgaa.AB
set_option linter.unusedVariables false
set_option linter.unusedSimpArgs false

theorem cf_etaM (c : Cf) : Cf.mk c.target c.util c.stable c.panic c.grain c.threshold c.up c.down c.min c.max c.initial c.grace c.delay c.burst c.limit c.queue c.timeout c.ready c.subset c.sample = c := rfl

/-- a mean within a window; whether its sum is cut -/
def mn (w g t : Int) (R : List (Int × Int)) : Int := meanOf (min M63 (vs g (inW (NB w g) (t.tdiv g)) R)) (ns g (inW (NB w g) (t.tdiv g)) R)
def mov (w g t : Int) (R : List (Int × Int)) : Bool := over (vs g (inW (NB w g) (t.tdiv g)) R)

theorem vs_le {V g : Int} {W : Int → Bool} : ∀ {R : List (Int × Int)}, (∀ y ∈ R, y.2 ≤ V) → vs g W R ≤ V * ns g W R
  | [], _ => by simp [vs, ns, wsum]
  | x :: R, h => by
    have ih := vs_le (V := V) (g := g) (W := W) (R := R) (fun y hy => h y (by simp [hy]))
    have hx := h x (by simp)
    unfold vs ns at ih ⊢
    simp only [wsum]
    rw [Int.mul_add]
    split
    · rw [Int.mul_one]; omega
    · rw [Int.mul_zero]; omega
theorem mn_range {V w g t : Int} {R : List (Int × Int)} (hR : ∀ y ∈ R, Tk y) (hV : ∀ y ∈ R, y.2 ≤ V) (V0 : 0 ≤ V) (V1 : V ≤ 1000000000000) (hl : R.length ≤ 70000) : 0 ≤ mn w g t R ∧ mn w g t R ≤ V ∧ mov w g t R = false := by
  have hM : M63 = 9223372036854775807 := rfl
  have h1 := vs_le (g := g) (W := inW (NB w g) (t.tdiv g)) hV
  have h2 := ns_le g (inW (NB w g) (t.tdiv g)) R
  have h3 : 0 ≤ vs g (inW (NB w g) (t.tdiv g)) R := wsum_nn g _ (fun y hy => (hR y hy).1.2)
  have h4 : 0 ≤ ns g (inW (NB w g) (t.tdiv g)) R := wsum_nn g _ (fun _ _ => by omega)
  have h5 : V * ns g (inW (NB w g) (t.tdiv g)) R ≤ 1000000000000 * 70000 := Int.mul_le_mul V1 (by omega) h4 (by omega)
  unfold mn mov
  have h6 : vs g (inW (NB w g) (t.tdiv g)) R ≤ M63 := by omega
  have e1 : min M63 (vs g (inW (NB w g) (t.tdiv g)) R) = vs g (inW (NB w g) (t.tdiv g)) R := by omega
  have e2 : over (vs g (inW (NB w g) (t.tdiv g)) R) = false := by unfold over; simp; omega
  rw [e1, e2]
  unfold meanOf
  split
  · exact ⟨by omega, V0, rfl⟩
  · rename_i hc
    refine ⟨Int.tdiv_nonneg h3 h4, ?_, rfl⟩
    rw [Int.tdiv_eq_ediv_of_nonneg h3]
    have : vs g (inW (NB w g) (t.tdiv g)) R ≤ V * ns g (inW (NB w g) (t.tdiv g)) R := h1
    exact Int.ediv_le_of_le_mul (by omega) this

/-- both windows, for settings -/
structure MRel (c : Cf) (Rs Rq : List (Int × Int)) (R0 R1 : Rg) : Prop where
  r0 : PRel c.grain (NB c.stable c.grain) R0.nw Rs R0.lo R0.len R0.l R0.f
  w0 : R0.w = c.stable
  g0 : R0.g = c.grain
  n0 : R0.n = NB c.stable c.grain
  b0 : -1 ≤ R0.nw ∧ R0.nw ≤ 1099511627776
  r1 : PRel c.grain (NB c.panic c.grain) R1.nw Rq R1.lo R1.len R1.l R1.f
  w1 : R1.w = c.panic
  g1 : R1.g = c.grain
  n1 : R1.n = NB c.panic c.grain
  b1 : -1 ≤ R1.nw ∧ R1.nw ≤ 1099511627776

theorem rokS {c : Cf} (hm : S.may c = true) : Rok c.stable c.grain := by
  have hc := (may_iff c).mp hm
  have h1 := hc.stable; have h2 := hc.panic; have h3 := hc.grain
  exact ⟨⟨by omega, by omega⟩, by omega⟩
theorem rokP {c : Cf} (hm : S.may c = true) : Rok c.panic c.grain := by
  have hc := (may_iff c).mp hm
  have h1 := hc.stable; have h2 := hc.panic; have h3 := hc.grain
  exact ⟨⟨by omega, by omega⟩, by omega⟩

theorem mput_ok {c mc : Cf} {mo : Bool} {Rs Rq : List (Int × Int)} {R0 R1 : Rg} (hm : S.may c = true) (h : MRel c Rs Rq R0 R1) {x : Int × Int} (hx : Tk x) (h0 : Rs.length ≤ 70000) (h1 : Rq.length ≤ 70000) :
    ∃ R0' R1', S.mput mc mo R0 R1 x.1 x.2 = some (0, mc, mo, R0', R1') ∧ MRel c (pR c.grain (NB c.stable c.grain) R0.nw x Rs) (pR c.grain (NB c.panic c.grain) R1.nw x Rq) R0' R1' ∧
      R0'.nw = pnw c.grain R0.nw x ∧ R1'.nw = pnw c.grain R1.nw x ∧ R0'.ov = R0.ov ∧ R1'.ov = R1.ov := by
  obtain ⟨lo0, len0, w0, g0, n0, nw0, ov0, l0, f0⟩ := R0
  obtain ⟨lo1, len1, w1, g1, n1, nw1, ov1, l1, f1⟩ := R1
  obtain ⟨r0, hw0, hg0, hn0, b0, r1, hw1, hg1, hn1, b1⟩ := h
  simp only at r0 hw0 hg0 hn0 b0 r1 hw1 hg1 hn1 b1 ⊢
  subst hw0; subst hg0; subst hn0; subst hw1; subst hn1
  have hk := (rokS hm).1.1
  obtain ⟨lo', len', l', f', e, hP⟩ := rp_ok r0 (rokS hm) b0.1 b0.2 hx h0 ov0
  obtain ⟨lo2, len2, l2, f2, e2, hP2⟩ := rp_ok r1 (rokP hm) b1.1 b1.2 hx h1 ov1
  have p0 := pnw_b (nw := nw0) hk hx.1 b0.1 b0.2
  have p1 := pnw_b (nw := nw1) hk hx.1 b1.1 b1.2
  unfold S.mput
  rw [hg1]
  simp only [e, e2, optK]
  exact ⟨_, _, rfl, ⟨hP, rfl, rfl, rfl, ⟨p0.1, p0.2.1⟩, hP2, rfl, rfl, rfl, ⟨p1.1, p1.2.1⟩⟩, rfl, rfl, rfl, rfl⟩

theorem mmeans_ok {c mc : Cf} {mo : Bool} {Rs Rq : List (Int × Int)} {R0 R1 : Rg} (hm : S.may c = true) (h : MRel c Rs Rq R0 R1) {t : Int} (t0 : 0 ≤ t) (t1 : t ≤ 1099511627776) (h0 : Rs.length ≤ 70000) (h1 : Rq.length ≤ 70000) :
    ∃ R0' R1', S.mmeans mc mo R0 R1 t = some (mn c.stable c.grain t Rs, mn c.panic c.grain t Rq, mc, mo, R0', R1') ∧ MRel c Rs Rq R0' R1' ∧
      R0'.nw = R0.nw ∧ R1'.nw = R1.nw ∧ R0'.ov = (R0.ov || mov c.stable c.grain t Rs) ∧ R1'.ov = (R1.ov || mov c.panic c.grain t Rq) := by
  obtain ⟨lo0, len0, w0, g0, n0, nw0, ov0, l0, f0⟩ := R0
  obtain ⟨lo1, len1, w1, g1, n1, nw1, ov1, l1, f1⟩ := R1
  obtain ⟨r0, hw0, hg0, hn0, b0, r1, hw1, hg1, hn1, b1⟩ := h
  simp only at r0 hw0 hg0 hn0 b0 r1 hw1 hg1 hn1 b1 ⊢
  subst hw0; subst hg0; subst hn0; subst hw1; subst hn1
  have hk := (rokS hm).1.1
  have e := rm_ok r0 hk h0 c.stable ov0 (t := t) t0 (by omega)
  have e2 := rm_ok r1 hk h1 c.panic ov1 (t := t) t0 (by omega)
  unfold S.mmeans
  rw [hg1]
  simp only [e, e2, optK]
  exact ⟨_, _, rfl, ⟨r0, rfl, rfl, rfl, b0, r1, rfl, rfl, rfl, b1⟩, rfl, rfl, rfl, rfl⟩

/-- a new one -/
def rg0 (w g : Int) : Rg := ⟨0, 0, w, g, NB w g, -1, false, [], []⟩
theorem mnew_yes {c : Cf} (hm : S.may c = true) : S.mnew_p c = some (.inr (c, rg0 c.stable c.grain, rg0 c.panic c.grain)) := by
  unfold S.mnew_p S.mnew
  simp only [cf_etaM, hm, Bool.not_true, cond_false, new_yes (rokS hm), new_yes (rokP hm), optK, Sum.elim_inr, Option.bind_some]
  rfl
theorem mrel0 (c : Cf) : MRel c [] [] (rg0 c.stable c.grain) (rg0 c.panic c.grain) :=
  ⟨PRel.nil .., rfl, rfl, rfl, ⟨by simp [rg0], by simp [rg0]⟩, PRel.nil .., rfl, rfl, rfl, ⟨by simp [rg0], by simp [rg0]⟩⟩

theorem mchange_ok {c d : Cf} {mo : Bool} {Rs Rq : List (Int × Int)} {R0 R1 : Rg} (hd : S.may d = true) (hg : d.grain = c.grain) (h : MRel c Rs Rq R0 R1) (h0 : Rs.length ≤ 70000) (h1 : Rq.length ≤ 70000) :
    ∃ R0' R1', S.mchange c mo R0 R1 d = some (0, d, mo, R0', R1') ∧ MRel d (Rs.filter (Kp d.grain (NB d.stable d.grain) R0.nw)) (Rq.filter (Kp d.grain (NB d.panic d.grain) R1.nw)) R0' R1' ∧ R0'.nw = R0.nw ∧ R1'.nw = R1.nw ∧ R0'.ov = R0.ov ∧ R1'.ov = R1.ov := by
  obtain ⟨lo0, len0, w0, g0, n0, nw0, ov0, l0, f0⟩ := R0
  obtain ⟨lo1, len1, w1, g1, n1, nw1, ov1, l1, f1⟩ := R1
  obtain ⟨r0, hw0, hg0, hn0, b0, r1, hw1, hg1, hn1, b1⟩ := h
  simp only at r0 hw0 hg0 hn0 b0 r1 hw1 hg1 hn1 b1 ⊢
  rw [← hg] at r0 r1 hg0 hg1 hn0 hn1
  subst hw0; subst hn0; subst hw1; subst hn1
  obtain ⟨lo', len', l', f', e, hP⟩ := rr_ok r0 (rokS hd) b0.1 b0.2 h0 ov0
  obtain ⟨lo2, len2, l2, f2, e2, hP2⟩ := rr_ok r1 (rokP hd) b1.1 b1.2 h1 ov1
  unfold S.mchange
  rw [hg0, hg1]
  simp only [hd, hg, decide_true, Bool.not_true, cond_false]
  rw [hg] at e e2
  simp only [e, e2, optK]
  rw [hg] at hP hP2
  refine ⟨_, _, rfl, ⟨?_, rfl, hg.symm, by rw [hg], b0, ?_, rfl, hg.symm, by rw [hg], b1⟩, rfl, rfl, rfl, rfl⟩
  · rw [hg]; exact hP
  · rw [hg]; exact hP2
end Go.Proofs.Ytdflpflffccmgaa.AB
namespace Go.Proofs.Ytdflpflffccmgaa.AB
set_option linter.unusedVariables false
set_option linter.unusedSimpArgs false

def Seg (val : Nat → Int) (s n : Nat) : List (Int × Int) := (List.range' s n).map (fun j : Nat => ((j : Int), val j))
theorem seg_len (val : Nat → Int) (s n : Nat) : (Seg val s n).length = n := by unfold Seg; simp
theorem seg_snoc (val : Nat → Int) (s n : Nat) : Seg val s (n + 1) = Seg val s n ++ [(((s + n : Nat) : Int), val (s + n))] := by
  unfold Seg; rw [List.range'_1_concat]; simp
theorem seg_cons (val : Nat → Int) (s n : Nat) : Seg val s (n + 1) = ((s : Int), val s) :: Seg val (s + 1) n := by
  unfold Seg; rw [List.range'_succ]; simp
theorem seg_all (val : Nat → Int) (s n : Nat) (P : Int × Int → Bool) (h : ∀ j, s ≤ j → j < s + n → P ((j : Int), val j) = true) : (Seg val s n).filter P = Seg val s n := by
  rw [List.filter_eq_self]
  intro x hx
  unfold Seg at hx
  obtain ⟨j, hj, rfl⟩ := List.mem_map.mp hx
  have := List.mem_range'_1.mp hj
  exact h j this.1 this.2
theorem bk1 (x : Int × Int) : bk 1 x = x.1 := by unfold bk; exact Int.tdiv_one x.1

/-- tick by tick -/
theorem seg_pR (val : Nat → Int) (N : Nat) (hN : 1 ≤ N) (t : Nat) :
    pR 1 N ((t : Int) - 1) ((t : Int), val t) (Seg val (t - min t N) (min t N)) = Seg val (t + 1 - min (t + 1) N) (min (t + 1) N) := by
  unfold pR
  have e1 : bk 1 ((t : Int), val t) = t := bk1 _
  have e2 : pnw 1 ((t : Int) - 1) ((t : Int), val t) = t := by unfold pnw; rw [e1, if_pos (by omega)]
  rw [e1, e2, if_pos (by omega)]
  have e3 : Seg val (t - min t N) (min t N) ++ [((t : Int), val t)] = Seg val (t - min t N) (min t N + 1) := by
    rw [seg_snoc, show t - min t N + min t N = t by omega]
  rw [e3]
  by_cases c : t < N
  · have a1 : min t N = t := by omega
    have a2 : min (t + 1) N = t + 1 := by omega
    rw [a1, a2, show t + 1 - (t + 1) = t - t by omega]
    refine seg_all _ _ _ _ fun j h1 h2 => ?_
    unfold Kp; rw [bk1]; exact decide_eq_true (by simp only; omega)
  · have a1 : min t N = N := by omega
    have a2 : min (t + 1) N = N := by omega
    rw [a1, a2, seg_cons, List.filter_cons]
    have : Kp 1 N t (((t - N : Nat) : Int), val (t - N)) = false := by unfold Kp; rw [bk1]; exact decide_eq_false (by simp only; omega)
    rw [this]
    simp only [Bool.false_eq_true, if_false]
    rw [show t - N + 1 = t + 1 - N by omega]
    refine seg_all _ _ _ _ fun j h1 h2 => ?_
    unfold Kp; rw [bk1]; exact decide_eq_true (by simp only; omega)
theorem seg_pnw (val : Nat → Int) (t : Nat) : pnw 1 ((t : Int) - 1) ((t : Int), val t) = ((t + 1 : Nat) : Int) - 1 := by
  unfold pnw; rw [bk1, if_pos (by simp only; omega)]; simp only; omega

def tot (f : Nat → Int) : Nat → Nat → Int
  | _, 0 => 0
  | s, n + 1 => f s + tot f (s + 1) n
theorem vs_seg (val : Nat → Int) (W : Int → Bool) : ∀ (n s : Nat), (∀ j : Nat, s ≤ j → j < s + n → W j = true) → vs 1 W (Seg val s n) = tot val s n ∧ ns 1 W (Seg val s n) = n
  | 0, s, _ => ⟨rfl, rfl⟩
  | n + 1, s, h => by
    obtain ⟨i1, i2⟩ := vs_seg val W n (s + 1) (fun j h1 h2 => h j (by omega) (by omega))
    have hs : W (s : Int) = true := h s (by omega) (by omega)
    unfold vs at i1; unfold ns at i2; unfold vs ns
    rw [seg_cons]
    simp only [wsum, bk1, hs, if_true, tot, i1, i2]
    exact ⟨trivial, by omega⟩
theorem tot_nn {f : Nat → Int} {m : Int} (h : ∀ j, 0 ≤ f j ∧ f j ≤ m) : ∀ (n s : Nat), 0 ≤ tot f s n ∧ tot f s n ≤ m * n
  | 0, s => by simp [tot]
  | n + 1, s => by
    have := tot_nn h n (s + 1)
    have h1 := h s
    unfold tot
    rw [show ((n + 1 : Nat) : Int) = (n : Int) + 1 by omega, Int.mul_add]
    omega
theorem NB1 (w : Int) (h : 0 ≤ w) : NB w 1 = w := by unfold NB; rw [Int.tdiv_one]; omega
/-- a mean of what was put tick by tick, all within the window -/
theorem mn_seg (val : Nat → Int) {m : Int} (hv : ∀ j, 0 ≤ val j ∧ val j ≤ m) (m1 : m ≤ 1000000000) (w t : Int) (s n : Nat) (w0 : 0 ≤ w) (hn : n ≤ 1000) (h : ∀ j : Nat, s ≤ j → j < s + n → (j : Int) ≤ t ∧ t - j < w) :
    mn w 1 t (Seg val s n) = meanOf (tot val s n) n := by
  unfold mn
  rw [NB1 w w0, Int.tdiv_one]
  obtain ⟨e1, e2⟩ := vs_seg val (inW w t) n s (fun j h1 h2 => by unfold inW; exact decide_eq_true (h j h1 h2))
  rw [e1, e2]
  have := tot_nn hv n s
  have h2 : m * (n : Int) ≤ 1000000000 * 1000 := Int.mul_le_mul m1 (by omega) (by omega) (by omega)
  rw [show min M63 (tot val s n) = tot val s n by unfold M63; omega]

/-- both windows, a tick on -/
theorem met_step {c : Cf} (hm : S.may c = true) (hg : c.grain = 1) {S0 P0 : Nat} (hS : c.stable = S0) (hP : c.panic = P0) (s1 : 1 ≤ S0) (p1 : 1 ≤ P0) (s2 : S0 ≤ 600) (p2 : P0 ≤ 600) {val : Nat → Int} {m : Int} (hv : ∀ j, 0 ≤ val j ∧ val j ≤ m) (m1 : m ≤ 1000000000)
    {t : Nat} (ht : t ≤ 60000) {mc : Cf} {mo : Bool} {R0 R1 : Rg} (h : MRel c (Seg val (t - min t S0) (min t S0)) (Seg val (t - min t P0) (min t P0)) R0 R1) (n0 : R0.nw = (t : Int) - 1) (n1 : R1.nw = (t : Int) - 1) :
    ∃ R0' R1', S.mput mc mo R0 R1 (t : Int) (val t) = some (0, mc, mo, R0', R1') ∧ MRel c (Seg val (t + 1 - min (t + 1) S0) (min (t + 1) S0)) (Seg val (t + 1 - min (t + 1) P0) (min (t + 1) P0)) R0' R1' ∧
      R0'.nw = ((t + 1 : Nat) : Int) - 1 ∧ R1'.nw = ((t + 1 : Nat) : Int) - 1 ∧ R0'.ov = R0.ov ∧ R1'.ov = R1.ov := by
  have hx : Tk ((t : Int), val t) := mk_tk (by omega) (by omega) (hv t).1 (by have := (hv t).2; unfold M63; omega)
  obtain ⟨R0', R1', e, hM, q0, q1, o0, o1⟩ := mput_ok (mc := mc) (mo := mo) hm h hx (by rw [seg_len]; omega) (by rw [seg_len]; omega)
  have e1 : NB c.stable c.grain = ((S0 : Nat) : Int) := by rw [hg, hS]; exact NB1 _ (by omega)
  have e2 : NB c.panic c.grain = ((P0 : Nat) : Int) := by rw [hg, hP]; exact NB1 _ (by omega)
  rw [e1, e2, hg, n0, n1, seg_pR val S0 s1 t, seg_pR val P0 p1 t] at hM
  rw [hg, n0, seg_pnw] at q0
  rw [hg, n1, seg_pnw] at q1
  exact ⟨R0', R1', e, hM, q0, q1, o0, o1⟩
theorem seg_le {val : Nat → Int} {m : Int} (hv : ∀ j, 0 ≤ val j ∧ val j ≤ m) (s n : Nat) : ∀ y ∈ Seg val s n, y.2 ≤ m := by
  intro x hx
  unfold Seg at hx
  obtain ⟨j, hj, rfl⟩ := List.mem_map.mp hx
  exact (hv j).2
end Go.Proofs.Ytdflpflffccmgaa.AB
