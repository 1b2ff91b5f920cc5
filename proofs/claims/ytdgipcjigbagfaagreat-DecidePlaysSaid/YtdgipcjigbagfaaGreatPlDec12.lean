/- The document's decider does what the program's does. -/
import Derived.Test.YtdgipcjigbagfaaGreatPlDec
import Derived.Test.YtdgipcjigbagfaaGreatPlRref
import Derived.Test.YtdgipcjigbagfaaGreatPlRing5
import Derived.Test.YtdgipcjigbagfaaGreatPlRmul
import Derived.Test.YtdgipcjigbagfaaGreatSrdec
namespace Go.Proofs.YtdgipcjigbagfaaGreat.AB
set_option linter.unusedVariables false
set_option linter.unusedSimpArgs false

/-! functions of one value -/
theorem rsubD_eq (a b : Int) : S.rsub a b = S.msub a b := by
  unfold S.rsub S.msub S.mend
  by_cases h : b < 0
  · have h' : ¬ 0 < b := by omega
    simp [h, h']
  · simp [h]
theorem bcutD_eq (n : Int) : S.rcut n 0 = S.bthere n := by unfold S.rcut S.bthere; rfl
theorem rexcessD_eq (c : Cf) (r q : Int) : S.rexcess c r q = S.excess c r q := by
  unfold S.rexcess S.excess
  simp only [cf_etaW, rmay_eq, rsubD_eq, bcutD_eq]
theorem rclampD_eq (a lo hi : Int) : S.rclamp a lo hi = clampF a lo hi := by
  unfold S.rclamp clampF; by_cases h1 : hi < a <;> by_cases h2 : a < lo <;> simp [h1, h2]
theorem rperD_eq (c : Cf) (hm : S.may c = true) : S.rper c = Pe c := by
  have ht := tu_range c hm
  have hc := (may_iff c).mp hm
  have h1 := hc.target
  have h2 := hc.util
  unfold S.rper
  rw [rmul_eq (by omega) (by omega) (by omega) (by omega), mulS_in (by omega) (by omega)]
  rfl
theorem rofD_eq (c : Cf) (hm : S.may c = true) (m : Int) (m0 : 0 ≤ m) (m1 : m < 9223372036854775807) : S.rof c m = some (Wn c m) := by
  have hp := Pe_range c hm
  unfold S.rof Wn
  simp only [cf_etaW, rmay_eq, hm, Bool.not_true, cond_false, rperD_eq c hm, rup_eq, mup_nn m0 m1 (b := Pe c) (by omega), optK, rclampD_eq]
theorem rcut_num (n lo : Int) (h : 0 ≤ lo) (h1 : lo ≤ 1) : S.rcut n lo = S.wnum1 n lo := by
  unfold S.rcut S.wnum1
  rw [mclamp_eq]; unfold clampF
  repeat' split
  all_goals omega
theorem roverD_eq (c : Cf) (w r : Int) : S.rover c w r = S.wover c w r := by
  unfold S.rover S.wover
  simp only [cf_etaW, rmay_eq, rcut_num r 1 (by omega) (by omega), rcut_num w 0 (by omega) (by omega)]
theorem rlimitD_eq (c : Cf) (w r : Int) : S.rlimit c w r = S.limit c w r := by
  unfold S.rlimit S.limit
  simp only [cf_etaW, rmay_eq, rleast_eq, rmost_eq]
theorem rnextD_eq {c : Cf} (hm : S.may c = true) {si ms now : Int} {ov : Bool} (n0 : 0 ≤ now) (n1 : now ≤ 1099511627776) (s1 : si ≤ now) : S.rnext si ms c now ov = S.next c si ms now ov := by
  have hst := ((may_iff c).mp hm).stable
  have w1 : IntKind.wrap .i64 (now - c.stable) = now - c.stable := wrap_id (by omega) (by omega)
  unfold S.rnext S.next S.ris
  simp only [cf_etaW, rmay_eq, hm, is_eq, w1]
  by_cases h : 0 ≤ si
  · have w2 : IntKind.wrap .i64 (now - si) = now - si := wrap_id (by omega) (by omega)
    have e : decide (si ≤ now - c.stable) = decide (c.stable ≤ now - si) := by
      by_cases h2 : c.stable ≤ now - si
      · rw [decide_eq_true h2]; exact decide_eq_true (by omega)
      · rw [decide_eq_false h2]; exact decide_eq_false (by omega)
    rw [w2, e]
  · simp only [h, decide_false, cond_false]
theorem rkeepD_eq (t m w : Int) : S.rkeep t m w = S.keep t m w := by
  unfold S.rkeep S.keep S.ris; rw [is_eq]

/-! what holds -/
theorem rdputD {L : List (Int × Int)} {sp t w z : Int} (hl : L.length < 90000) (hz : ∀ x, L[L.length - 1]? = some x → x.1 = z) (tz : z ≤ t) (t0 : 0 ≤ t) (t1 : t ≤ 1099511627776) (w0 : 0 ≤ w) (w1 : w ≤ 1000000) :
    S.rdput L 0 L.length sp t w = some (0, sp, 0, (L ++ [(t, w)]).length, L ++ [(t, w)]) := by
  unfold S.rdput
  have hb : (Nat.beq 2 2 && Nat.blt 0 16 && Nat.beq 2 2 && Nat.beq 2 2 && Nat.beq 2 2 && Nat.blt 0 1 && !Nat.beq 1 2 && Nat.ble ((L.length + 1) * 16) 35184372088832) = true := by
    have : Nat.ble ((L.length + 1) * 16) 35184372088832 = true := Nat.ble_eq.mpr (by omega)
    rw [this]; rfl
  have hc : cutL L 0 L.length ++ cutL [(t, w)] 0 1 = L ++ [(t, w)] := by rw [cutL_all]; rfl
  rw [hb, hc]
  have c1 : ¬ t < 0 := by omega
  have c2 : ¬ 1099511627776 < t := by omega
  have c3 : ¬ w < 0 := by omega
  have c4 : ¬ 1000000 < w := by omega
  by_cases c5 : 0 < L.length
  · have g5 : (0 : Int) < (L.length : Int) := by omega
    have hw2 : IntKind.wrap .i64 ((L.length : Int) - 1) = ((L.length - 1 : Nat) : Int) := by rw [wrap_id (by omega) (by omega)]; omega
    have g4 : inB ((L.length - 1 : Nat) : Int) L.length = true := by unfold inB; simp; omega
    obtain ⟨y, hy⟩ : ∃ y, L[L.length - 1]? = some y := ⟨L[L.length - 1]'(by omega), by simp⟩
    have g6 : L[Int.toNat ((L.length - 1 : Nat) : Int) + 0]? = some y := by simpa using hy
    have hyz := hz y hy
    have c6 : ¬ t < z := by omega
    simp only [c1, c2, c3, c4, g5, hw2, g4, g6, hyz, c6, decide_true, decide_false, cond_true, cond_false, optK]
  · have g5 : ¬ (0 : Int) < (L.length : Int) := by omega
    simp only [c1, c2, c3, c4, g5, decide_false, cond_false, cond_true]

theorem rdmostD_loop (fu : Nat) {L : List (Int × Int)} (hq : Times L) {sp t z : Int} (t0 : 0 ≤ t) (t1 : t ≤ 1099511627776) (s0 : 0 ≤ sp) (s1 : sp ≤ 600) (hl : L.length < 1000000) (hz : ∀ x, L[L.length - 1]? = some x → x.1 = z) (z0 : 0 ≤ z) (z1 : z ≤ 1099511627776) :
    ∀ (n k : Nat) (m : Int), k ≤ L.length → L.length < n + k → S.rdmost_l0 fu L 0 L.length sp t n m k = some (mostFrom sp t m ((L.drop k).filter (keepT z)), (L.length : Int), false) := by
  intro n
  induction n with
  | zero => intro k m _ _; omega
  | succ n ih =>
    intro k m hk hn
    unfold S.rdmost_l0
    by_cases c : k < L.length
    · have g1 : ((k : Int) < (L.length : Int)) := by omega
      have g2 : inB (k : Int) L.length = true := by unfold inB; simp; omega
      obtain ⟨x, hx⟩ : ∃ x, L[k]? = some x := ⟨L[k]'(by omega), by simp⟩
      have g3 : L[Int.toNat (k : Int) + 0]? = some x := by simpa using hx
      obtain ⟨x0, x1⟩ := hq x (List.mem_of_getElem? hx)
      have hw : IntKind.wrap .i64 ((k : Int) + 1) = ((k + 1 : Nat) : Int) := by rw [wrap_id (by omega) (by omega)]; omega
      have hw2 : IntKind.wrap .i64 ((L.length : Int) - 1) = ((L.length - 1 : Nat) : Int) := by rw [wrap_id (by omega) (by omega)]; omega
      have g4 : inB ((L.length - 1 : Nat) : Int) L.length = true := by unfold inB; simp; omega
      obtain ⟨y, hy⟩ : ∃ y, L[L.length - 1]? = some y := ⟨L[L.length - 1]'(by omega), by simp⟩
      have g5 : L[Int.toNat ((L.length - 1 : Nat) : Int) + 0]? = some y := by simpa using hy
      have hyz := hz y hy
      have ht : (if (0 : Int) > t then 0 else t) = t := if_neg (by omega)
      have ht2 : (if 1099511628377 < t then 1099511628377 else t) = t := if_neg (by omega)
      simp only [g1, g2, g3, hw2, g4, g5, decide_true, cond_true, optK, hw, ht, ht2, hyz]
      rw [wrap_id (n := z - 600) (by omega) (by omega), wrap_id (n := t - sp) (by omega) (by omega), getD_drop hx c]
      by_cases c0 : x.1 < z - 600
      · have hk : keepT z x = false := by unfold keepT; simp; omega
        simp only [c0, decide_true, cond_true, List.filter_cons, hk, Bool.false_eq_true, if_false]
        exact ih (k + 1) _ (by omega) (by omega)
      · have hk : keepT z x = true := by unfold keepT; simp; omega
        simp only [c0, decide_false, cond_false, List.filter_cons, hk, if_true]
        unfold mostFrom
        by_cases cc : counts sp t x = true
        · rw [cc]
          simp only [if_true]
          have : t - sp < x.1 ∨ t ≤ x.1 := by
            unfold counts at cc
            simp at cc
            omega
          by_cases c1 : t - sp < x.1
          · simp only [c1, decide_true, cond_true]
            exact ih (k + 1) _ (by omega) (by omega)
          · have c2 : t ≤ x.1 := by omega
            simp only [c1, c2, decide_true, decide_false, cond_true, cond_false]
            exact ih (k + 1) _ (by omega) (by omega)
        · have cf : counts sp t x = false := by simpa using cc
          rw [cf]
          unfold counts at cf
          simp at cf
          have c1 : ¬ t - sp < x.1 := by omega
          have c2 : ¬ t ≤ x.1 := by omega
          simp only [c1, c2, decide_false, cond_false, Bool.false_eq_true, if_false]
          exact ih (k + 1) _ (by omega) (by omega)
    · have g1 : ¬ ((k : Int) < (L.length : Int)) := by omega
      have hk2 : k = L.length := by omega
      simp only [g1, decide_false, cond_false]
      rw [List.drop_eq_nil_of_le (by omega), hk2]; rfl
theorem rdmostD {L : List (Int × Int)} (hq : Times L) {sp t z : Int} (t0 : 0 ≤ t) (t1 : t ≤ 1099511627776) (s0 : 0 ≤ sp) (s1 : sp ≤ 600) (hl : L.length < 90000) (hz : ∀ x, L[L.length - 1]? = some x → x.1 = z) (z0 : 0 ≤ z) (z1 : z ≤ 1099511627776) :
    S.rdmost 100000 L 0 L.length sp t = some (mostFrom sp t 0 (L.filter (keepT z))) := by
  unfold S.rdmost S.rdmost_a0_0
  have := rdmostD_loop 100000 hq (sp := sp) t0 t1 s0 s1 (by omega) hz z0 z1 100000 0 0 (by omega) (by omega)
  have e : S.rdmost_l0 100000 L 0 L.length sp t 100000 0 0 = some (mostFrom sp t 0 (L.filter (keepT z)), (L.length : Int), false) := this
  rw [e]; rfl

/-! both deciders -/
/-- the document's ring that bears these records -/
def rrOf (w g nw : Int) (ov : Bool) (R : List (Int × Int)) : Rr := ⟨w, g, 0, R.length, nw, ov, R⟩
def rdOf (sp : Int) (L : List (Int × Int)) : Rd := ⟨sp, 0, L.length, L⟩

structure DP (c : Cf) (si la : Int) (mo : Bool) (R0 R1 : Rg) (H : Dl) (P0 P1 : Rr) (Q : Rd) (Rs Rq D L : List (Int × Int)) (i : Nat) : Prop where
  may : S.may c = true
  d : DRel c la c R0 R1 H Rs Rq D
  p0 : P0 = rrOf c.stable c.grain R0.nw P0.ov Rs
  p1 : P1 = rrOf c.panic c.grain R1.nw P1.ov Rq
  ov : (mo || R0.ov || R1.ov) = (P0.ov || P1.ov)
  q : Q = rdOf c.delay L
  dl : D = L.filter (keepT H.la)
  tm : Times L
  z : ∀ x, L[L.length - 1]? = some x → x.1 = H.la
  z0 : 0 ≤ H.la
  sb : si ≤ la
  l0 : Rs.length ≤ i
  l1 : Rq.length ≤ i
  l2 : L.length ≤ i
  v0 : ∀ y ∈ Rs, y.2 ≤ 1000000000
  v1 : ∀ y ∈ Rq, y.2 ≤ 1000000000

theorem moverD_eq (c : Cf) (mo : Bool) (R0 R1 : Rg) : S.mover c mo R0 R1 = (mo || R0.ov || R1.ov) := by
  unfold S.mover S.ro; cases mo <;> cases R0.ov <;> rfl
theorem rmoverD_eq (w0 g0 : Int) (lo0 len0 : Nat) (nw0 : Int) (ov0 : Bool) (r0 : RL) (w1 g1 : Int) (lo1 len1 : Nat) (nw1 : Int) (ov1 : Bool) (r1 : RL) : S.rmover w0 g0 lo0 len0 nw0 ov0 r0 w1 g1 lo1 len1 nw1 ov1 r1 = (ov0 || ov1) := by
  unfold S.rmover; cases ov0 <;> rfl

theorem dp_put {c : Cf} {si ms la : Int} {mo : Bool} {R0 R1 : Rg} {H : Dl} {P0 P1 : Rr} {Q : Rd} {Rs Rq D L : List (Int × Int)} {i : Nat} (h : DP c si la mo R0 R1 H P0 P1 Q Rs Rq D L i) (hi : i ≤ 8000) {t v : Int} (t0 : 0 ≤ t) (t1 : t ≤ 1099511627776) (v0 : 0 ≤ v) (v1 : v ≤ 1000000000) :
    ∃ (R0' R1' : Rg) (P0' P1' : Rr) (Rs' Rq' : List (Int × Int)), S.dcput c si ms la c mo R0 R1 H t v = some (0, c, si, ms, la, c, mo, R0', R1', H) ∧
      S.rmput P0.w P0.g P0.lo P0.len P0.nw P0.ov P0.r P1.w P1.g P1.lo P1.len P1.nw P1.ov P1.r t v = some (0, P0', P1') ∧ DP c si la mo R0' R1' H P0' P1' Q Rs' Rq' D L (i + 1) := by
  have hm := h.may
  have hl0 := h.l0; have hl1 := h.l1; have hl2 := h.l2
  have ht : Takes (t, v) := ⟨⟨t0, t1⟩, v0⟩
  have htk : Tk (t, v) := ⟨ht, by unfold M63; simp only; omega⟩
  obtain ⟨R0', R1', e, hD, n0, n1, o0, o1⟩ := dcput_ok (mo := mo) (si := si) (ms := ms) (x := (t, v)) hm h.d htk (by omega) (by omega)
  have f0 := rput_ok (x := (t, v)) (rokS hm) h.d.m.r0.tk (by omega) h.d.m.b0.1 h.d.m.b0.2 ht P0.ov
  have f1 := rput_ok (x := (t, v)) (rokP hm) h.d.m.r1.tk (by omega) h.d.m.b1.1 h.d.m.b1.2 ht P1.ov
  have k0 := h.p0; have k1 := h.p1; have hov := h.ov
  have ln0 := pR_len c.grain (NB c.stable c.grain) R0.nw (t, v) Rs
  have ln1 := pR_len c.grain (NB c.panic c.grain) R1.nw (t, v) Rq
  have w0 := pR_all (g := c.grain) (n := NB c.stable c.grain) (nw := R0.nw) (x := (t, v)) h.v0 (by simp only; omega)
  have w1 := pR_all (g := c.grain) (n := NB c.panic c.grain) (nw := R1.nw) (x := (t, v)) h.v1 (by simp only; omega)
  obtain ⟨pw0, pg0, plo0, plen0, pnw0, pov0, pr0⟩ := P0
  obtain ⟨pw1, pg1, plo1, plen1, pnw1, pov1, pr1⟩ := P1
  unfold rrOf at k0 k1
  simp only [Rr.mk.injEq] at k0 k1
  obtain ⟨rfl, rfl, rfl, rfl, rfl, -, rfl⟩ := k0
  obtain ⟨rfl, rfl, rfl, rfl, rfl, -, rfl⟩ := k1
  refine ⟨R0', R1', rrOf c.stable c.grain R0'.nw pov0 (pR c.grain (NB c.stable c.grain) R0.nw (t, v) pr0), rrOf c.panic c.grain R1'.nw pov1 (pR c.grain (NB c.panic c.grain) R1.nw (t, v) pr1), _, _, e, ?_, ⟨hm, hD, rfl, rfl, ?_, h.q, h.dl, h.tm, h.z, h.z0, h.sb, by omega, by omega, by omega, w0, w1⟩⟩
  · unfold S.rmput
    simp only at f0 f1
    simp only [f0, f1, optK, n0, n1]
    rfl
  · rw [o0, o1]; exact hov

/-- as dcnext_ok, with the time of what holds -/
theorem dcnext_ok2 {c mc : Cf} {si ms la : Int} {mo : Bool} {Rs Rq D : List (Int × Int)} {R0 R1 : Rg} {H : Dl} (hm : S.may c = true) (h : DRel c la mc R0 R1 H Rs Rq D) {t r : Int} (t0 : la ≤ t) (t1 : t ≤ 1099511627776) (r0 : 0 ≤ r) (r1 : r ≤ 100)
    (h0 : Rs.length ≤ 70000) (h1 : Rq.length ≤ 70000) (hd : D.length ≤ 80000) (v0 : ∀ y ∈ Rs, y.2 ≤ 1000000000000) (v1 : ∀ y ∈ Rq, y.2 ≤ 1000000000000)
    {s q : Int} (hs : s = mn c.stable c.grain t Rs) (hq : q = mn c.panic c.grain t Rq) {p : Int × Int} (hp : p = S.next c si ms t (S.wover c (Wn c q) r))
    {D' : List (Int × Int)} (hD : D' = D.filter (keepT t) ++ [(t, letN c p.1 s q r)]) {k : Int × Int × Int} (hk : k = S.keep p.1 p.2 (mostFrom c.delay t 0 D')) :
    ∃ R0' R1' H', S.dcnext c si ms la mc mo R0 R1 H t r = some (t, s, q, bnds c k.2.2, decide (0 ≤ k.1), S.excess c r q, 0, c, k.1, k.2.1, t, mc, mo, R0', R1', H') ∧ DRel c t mc R0' R1' H' Rs Rq D' ∧
      R0'.nw = R0.nw ∧ R1'.nw = R1.nw ∧ R0'.ov = R0.ov ∧ R1'.ov = R1.ov ∧ H'.la = t := by
  obtain ⟨R0', R1', e, hM, q1, q2, q3, q4⟩ := mmeans_ok (mc := mc) (mo := mo) hm h.m (t := t) (by have := h.la0; omega) t1 h0 h1
  have hla0 := h.la0
  have ms0 := mn_range (w := c.stable) (g := c.grain) (t := t) h.m.r0.tk v0 (by omega) (by omega) h0
  have mq0 := mn_range (w := c.panic) (g := c.grain) (t := t) h.m.r1.tk v1 (by omega) (by omega) h1
  rw [← hs, ← hq] at e
  rw [← hs] at ms0
  rw [← hq] at mq0
  rw [ms0.2.2, Bool.or_false] at q3
  rw [mq0.2.2, Bool.or_false] at q4
  have p1 : ¬ t < la := by omega
  have p2 : ¬ 1099511627776 < t := by omega
  have p3 : ¬ r < 0 := by omega
  have p4 : ¬ 100 < r := by omega
  have hln := letN_range c hm p.1 s q r r0 (by omega)
  have hlen := h.hold.len
  obtain ⟨q', hq', ed⟩ := dput_yes h.hold h.times (sp := H.sp) (la := H.la) (t := t) (w := letN c p.1 s q r) (by have := h.hla; omega) (by omega) t1 hln.1 hln.2 (by omega)
  have hqD : q' = D' := by rw [hq', hD]
  rw [hqD] at ed
  have hT : Times D' := by
    intro x hx
    rw [hD] at hx
    rcases List.mem_append.mp hx with hx | hx
    · exact h.times x (List.mem_filter.mp hx).1
    · simp at hx; subst hx; exact ⟨by simp only; omega, by simp only; omega⟩
  have hW : Holds (D'.map some) 0 D'.length D' := Holds.whole D'
  have hdl : D'.length < 90000 := by
    have := List.length_filter_le (keepT t) D
    rw [hD, List.length_append, List.length_singleton]; omega
  have em := dmost_eq hW hT (sp := H.sp) (la := t) (t := t) (by omega) (by omega) hdl
  rw [h.hsp] at em ed
  unfold S.dcnext
  simp only [p1, p2, p3, p4, decide_false, cond_false, e, optK, wof_eq c hm s ms0.1 (by omega), wof_eq c hm q mq0.1 (by omega), limit_eq c hm, ← hp, is_eq]
  rw [h.hsp]
  by_cases c0 : 0 ≤ p.1
  · have e1 : letN c p.1 s q r = (if Li c (Wn c q) r > Li c (Wn c s) r then Li c (Wn c q) r else Li c (Wn c s) r) := by unfold letN; rw [if_pos c0]
    rw [e1] at ed
    simp only [c0, decide_true, cond_true, ed, em, optK, ← hk]
    exact ⟨R0', R1', _, rfl, ⟨hM, h.mc, hW, hT, ⟨by omega, t1⟩, by simp, rfl⟩, q1, q2, q3, q4, rfl⟩
  · have e1 : letN c p.1 s q r = Li c (Wn c s) r := by unfold letN; rw [if_neg c0]
    rw [e1] at ed
    simp only [c0, decide_false, cond_false, ed, em, optK, ← hk]
    exact ⟨R0', R1', _, rfl, ⟨hM, h.mc, hW, hT, ⟨by omega, t1⟩, by simp, rfl⟩, q1, q2, q3, q4, rfl⟩

theorem next_le {c : Cf} {si ms now : Int} {ov : Bool} (h : si ≤ now) (h0 : 0 ≤ now) : (S.next c si ms now ov).1 ≤ now := by
  rw [next_eq]
  repeat' split
  all_goals (simp only; omega)
theorem keep_fst (t m w : Int) : (S.keep t m w).1 = t := by
  unfold S.keep; cases S.is t m <;> rfl

theorem filt_sub {L : List (Int × Int)} {z t : Int} (h : z ≤ t) : (L.filter (keepT z)).filter (keepT t) = L.filter (keepT t) := by
  rw [List.filter_filter]
  congr 1
  funext x
  unfold keepT
  by_cases h1 : t - x.1 ≤ 600
  · have h2 : z - x.1 ≤ 600 := by omega
    simp [h1, h2]
  · simp [h1]
theorem filt_snoc {L : List (Int × Int)} {t w : Int} : (L ++ [(t, w)]).filter (keepT t) = L.filter (keepT t) ++ [(t, w)] := by
  rw [List.filter_append]
  have : keepT t (t, w) = true := by unfold keepT; simp
  simp [this]

theorem dp_next {c : Cf} {si ms la : Int} {mo : Bool} {R0 R1 : Rg} {H : Dl} {P0 P1 : Rr} {Q : Rd} {Rs Rq D L : List (Int × Int)} {i : Nat} (h : DP c si la mo R0 R1 H P0 P1 Q Rs Rq D L i) (hi : i ≤ 8000) (t r : Int) :
    ∃ (x : Int × Int × Int × Int × Bool × Int × Int) (si' ms' la' : Int) (R0' R1' : Rg) (H' : Dl) (P0' P1' : Rr) (Q' : Rd) (D' L' : List (Int × Int)),
      S.dcnext c si ms la c mo R0 R1 H t r = some (x.1, x.2.1, x.2.2.1, x.2.2.2.1, x.2.2.2.2.1, x.2.2.2.2.2.1, x.2.2.2.2.2.2, c, si', ms', la', c, mo, R0', R1', H') ∧
      S.rdcnext c si ms la P0 P1 Q t r = some (x.1, x.2.1, x.2.2.1, x.2.2.2.1, x.2.2.2.2.1, x.2.2.2.2.2.1, x.2.2.2.2.2.2, c, si', ms', la', P0', P1', Q') ∧
      DP c si' la' mo R0' R1' H' P0' P1' Q' Rs Rq D' L' (i + 1) ∧ (x.2.2.2.2.2.2 = 0 → 0 ≤ t ∧ t ≤ 1099511627776) := by
  have hm := h.may
  have hl0 := h.l0; have hl1 := h.l1; have hl2 := h.l2
  have hla0 := h.d.la0
  by_cases hbad : t < la ∨ 1099511627776 < t ∨ r < 0 ∨ 100 < r
  · refine ⟨(0, 0, 0, 0, false, 0, 1), si, ms, la, R0, R1, H, P0, P1, Q, D, L, ?_, ?_, ⟨hm, h.d, h.p0, h.p1, h.ov, h.q, h.dl, h.tm, h.z, h.z0, h.sb, by omega, by omega, by omega, h.v0, h.v1⟩, fun e => by simp at e⟩
    · unfold S.dcnext
      by_cases a : t < la
      · simp only [a, decide_true, cond_true]
      · by_cases b : 1099511627776 < t
        · simp only [a, b, decide_true, decide_false, cond_true, cond_false]
        · by_cases e : r < 0
          · simp only [a, b, e, decide_true, decide_false, cond_true, cond_false]
          · have f : 100 < r := by omega
            simp only [a, b, e, f, decide_true, decide_false, cond_true, cond_false]
    · unfold S.rdcnext
      by_cases a : t < la
      · simp only [a, decide_true, cond_true]
      · by_cases b : 1099511627776 < t
        · simp only [a, b, decide_true, decide_false, cond_true, cond_false]
        · by_cases e : r < 0
          · simp only [a, b, e, decide_true, decide_false, cond_true, cond_false]
          · have f : 100 < r := by omega
            simp only [a, b, e, f, decide_true, decide_false, cond_true, cond_false]
  · have t0 : la ≤ t := by omega
    have t1 : t ≤ 1099511627776 := by omega
    have r0 : 0 ≤ r := by omega
    have r1 : r ≤ 100 := by omega
    have hDl : D.length ≤ i := by rw [h.dl]; exact Nat.le_trans (List.length_filter_le _ _) hl2
    have V0 : ∀ y ∈ Rs, y.2 ≤ 1000000000000 := fun y hy => by have := h.v0 y hy; omega
    have V1 : ∀ y ∈ Rq, y.2 ≤ 1000000000000 := fun y hy => by have := h.v1 y hy; omega
    obtain ⟨s, hs⟩ : ∃ s, s = mn c.stable c.grain t Rs := ⟨_, rfl⟩
    obtain ⟨q, hq⟩ : ∃ q, q = mn c.panic c.grain t Rq := ⟨_, rfl⟩
    obtain ⟨p, hp⟩ : ∃ p, p = S.next c si ms t (S.wover c (Wn c q) r) := ⟨_, rfl⟩
    obtain ⟨N, hN⟩ : ∃ N, N = letN c p.1 s q r := ⟨_, rfl⟩
    obtain ⟨D', hD'⟩ : ∃ D', D' = D.filter (keepT t) ++ [(t, N)] := ⟨_, rfl⟩
    obtain ⟨k, hk⟩ : ∃ k, k = S.keep p.1 p.2 (mostFrom c.delay t 0 D') := ⟨_, rfl⟩
    obtain ⟨R0', R1', H', e, hD2, n0, n1, o0, o1, hla⟩ := dcnext_ok2 (mo := mo) (si := si) (ms := ms) hm h.d t0 t1 r0 r1 (by omega) (by omega) (by omega) V0 V1 hs hq hp (by rw [hD', hN]) hk
    have ms0 := mn_range (w := c.stable) (g := c.grain) (t := t) h.d.m.r0.tk V0 (by omega) (by omega) (by omega)
    have mq0 := mn_range (w := c.panic) (g := c.grain) (t := t) h.d.m.r1.tk V1 (by omega) (by omega) (by omega)
    rw [← hs] at ms0
    rw [← hq] at mq0
    have f0 := rmean_ok (w := c.stable) (g := c.grain) (nw := R0.nw) (R := Rs) (rokS hm) h.d.m.r0.tk (by omega) P0.ov (t := t) (by omega) (by omega)
    have f1 := rmean_ok (w := c.panic) (g := c.grain) (nw := R1.nw) (R := Rq) (rokP hm) h.d.m.r1.tk (by omega) P1.ov (t := t) (by omega) (by omega)
    have m0 : over (vs c.grain (inW (NB c.stable c.grain) (t.tdiv c.grain)) Rs) = false := ms0.2.2
    have m1 : over (vs c.grain (inW (NB c.panic c.grain) (t.tdiv c.grain)) Rq) = false := mq0.2.2
    have u0 : meanOf (min M63 (vs c.grain (inW (NB c.stable c.grain) (t.tdiv c.grain)) Rs)) (ns c.grain (inW (NB c.stable c.grain) (t.tdiv c.grain)) Rs) = s := hs.symm
    have u1 : meanOf (min M63 (vs c.grain (inW (NB c.panic c.grain) (t.tdiv c.grain)) Rq)) (ns c.grain (inW (NB c.panic c.grain) (t.tdiv c.grain)) Rq) = q := hq.symm
    rw [m0, Bool.or_false, u0] at f0
    rw [m1, Bool.or_false, u1] at f1
    have hok := (may_iff c).mp hm
    have hdly := hok.delay
    have hln := letN_range c hm p.1 s q r r0 (by omega)
    rw [← hN] at hln
    have hHla : H.la ≤ t := by have := h.d.hla; omega
    have ep := rdputD (L := L) (sp := c.delay) (t := t) (w := N) (by omega) h.z hHla (by omega) t1 hln.1 hln.2
    have hTm : Times (L ++ [(t, N)]) := by
      intro x hx
      rcases List.mem_append.mp hx with hx | hx
      · exact h.tm x hx
      · simp at hx; subst hx; exact ⟨by simp only; omega, by simp only; omega⟩
    have hz' : ∀ x, (L ++ [(t, N)])[(L ++ [(t, N)]).length - 1]? = some x → x.1 = t := by
      intro x hx; simp at hx; rw [← hx]
    have em := rdmostD hTm (sp := c.delay) (t := t) (z := t) (by omega) t1 hdly.1 hdly.2 (by simp; omega) hz' (by omega) t1
    have eD : (L ++ [(t, N)]).filter (keepT t) = D' := by rw [filt_snoc, hD', h.dl, filt_sub hHla]
    rw [eD] at em
    have enx : S.rnext si ms c t (S.wover c (Wn c q) r) = p := by rw [rnextD_eq hm (by omega) t1 (by have := h.sb; omega), hp]
    have hsp1 : p.1 ≤ t := by rw [hp]; exact next_le (by have := h.sb; omega) (by omega)
    have hk1 : k.1 = p.1 := by rw [hk]; exact keep_fst _ _ _
    have b1 : ¬ t < la := by omega
    have b2 : ¬ 1099511627776 < t := by omega
    have b3 : ¬ r < 0 := by omega
    have b4 : ¬ 100 < r := by omega
    have k0 := h.p0; have kk1 := h.p1; have kq := h.q; have hov := h.ov
    obtain ⟨pw0, pg0, plo0, plen0, pnw0, pov0, pr0⟩ := P0
    obtain ⟨pw1, pg1, plo1, plen1, pnw1, pov1, pr1⟩ := P1
    obtain ⟨qsp, qlo, qlen, qr⟩ := Q
    unfold rrOf at k0 kk1
    unfold rdOf at kq
    simp only [Rr.mk.injEq] at k0 kk1
    simp only [Rd.mk.injEq] at kq
    obtain ⟨rfl, rfl, rfl, rfl, rfl, -, rfl⟩ := k0
    obtain ⟨rfl, rfl, rfl, rfl, rfl, -, rfl⟩ := kk1
    obtain ⟨rfl, rfl, rfl, rfl⟩ := kq
    refine ⟨(t, s, q, bnds c k.2.2, decide (0 ≤ k.1), S.excess c r q, 0), k.1, k.2.1, t, R0', R1', H', rrOf c.stable c.grain R0.nw pov0 pr0, rrOf c.panic c.grain R1.nw pov1 pr1, rdOf c.delay (qr ++ [(t, N)]), D', qr ++ [(t, N)], e, ?_, ⟨hm, hD2, ?_, ?_, ?_, rfl, ?_, hTm, ?_, by omega, by omega, by omega, by omega, ?_, h.v0, h.v1⟩, fun _ => ⟨by omega, t1⟩⟩
    · unfold S.rdcnext
      simp only at f0 f1 ep em
      simp only [b1, b2, b3, b4, decide_false, cond_false, f0, f1, optK, rofD_eq c hm s ms0.1 (by omega), rofD_eq c hm q mq0.1 (by omega), rlimitD_eq, limit_eq c hm, roverD_eq, enx, S.ris]
      by_cases c0 : 0 ≤ p.1
      · have e1 : N = (if Li c (Wn c q) r > Li c (Wn c s) r then Li c (Wn c q) r else Li c (Wn c s) r) := by rw [hN]; unfold letN; rw [if_pos c0]
        rw [e1] at ep em
        simp only [c0, decide_true, cond_true, ep, em, optK, rkeepD_eq, ← hk, rexcessD_eq]
        rw [e1]; rfl
      · have e1 : N = Li c (Wn c s) r := by rw [hN]; unfold letN; rw [if_neg c0]
        rw [e1] at ep em
        simp only [c0, decide_false, cond_false, ep, em, optK, rkeepD_eq, ← hk, rexcessD_eq]
        rw [e1]; rfl
    · rw [n0]; rfl
    · rw [n1]; rfl
    · rw [o0, o1]; exact hov
    · rw [hla, eD]
    · rw [hla]; exact hz'
    · rw [List.length_append, List.length_singleton]; omega

theorem mchangeD_ok {c d : Cf} {mo : Bool} {Rs Rq : List (Int × Int)} {R0 R1 : Rg} (hd : S.may d = true) (hg : d.grain = c.grain) (h : MRel c Rs Rq R0 R1) (h0 : Rs.length ≤ 70000) (h1 : Rq.length ≤ 70000) :
    ∃ R0' R1', S.mchange c mo R0 R1 d = some (0, d, mo, R0', R1') ∧ MRel d (Rs.filter (Kp d.grain (NB d.stable d.grain) R0.nw)) (Rq.filter (Kp d.grain (NB d.panic d.grain) R1.nw)) R0' R1' ∧ R0'.nw = R0.nw ∧ R1'.nw = R1.nw ∧ R0'.ov = R0.ov ∧ R1'.ov = R1.ov := by
  obtain ⟨lo0, len0, w0, g0, n0, nw0, ov0, l0, f0⟩ := R0
  obtain ⟨lo1, len1, w1, g1, n1, nw1, ov1, l1, f1⟩ := R1
  obtain ⟨r0, hw0, hg0, hn0, b0, r1, hw1, hg1, hn1, b1⟩ := h
  simp only at r0 hw0 hg0 hn0 b0 r1 hw1 hg1 hn1 b1 ⊢
  rw [← hg] at r0 r1 hg0 hg1 hn0 hn1
  subst hw0; subst hn0; subst hw1; subst hn1
  obtain ⟨lo', len', l', f', e, hP⟩ := rr_ok r0 (rokS hd) b0.1 b0.2 h0 ov0
  obtain ⟨lo2, len2, l2, f2, e2, hP2⟩ := rr_ok r1 (rokP hd) b1.1 b1.2 h1 ov1
  unfold S.mchange
  rw [hg0, hg1]
  simp only [hd, hg, decide_true, Bool.not_true, cond_false]
  rw [hg] at e e2
  simp only [e, e2, optK]
  rw [hg] at hP hP2
  refine ⟨_, _, rfl, ⟨?_, rfl, hg.symm, by rw [hg], b0, ?_, rfl, hg.symm, by rw [hg], b1⟩, rfl, rfl, rfl, rfl⟩
  · rw [hg]; exact hP
  · rw [hg]; exact hP2

theorem dp_change {c : Cf} {si ms la : Int} {mo : Bool} {R0 R1 : Rg} {H : Dl} {P0 P1 : Rr} {Q : Rd} {Rs Rq D L : List (Int × Int)} {i : Nat} (h : DP c si la mo R0 R1 H P0 P1 Q Rs Rq D L i) (hi : i ≤ 8000) (d : Cf) :
    ∃ (e : Int) (c' : Cf) (ms' : Int) (mo' : Bool) (R0' R1' : Rg) (H' : Dl) (P0' P1' : Rr) (Q' : Rd) (Rs' Rq' : List (Int × Int)),
      S.dcchange c si ms la c mo R0 R1 H d = some (e, c', si, ms', la, c', mo', H', R0', R1') ∧
      S.rdcchange c si ms la P0 P1 Q d = some (e, c', si, ms', la, P0', P1', Q') ∧ DP c' si la mo' R0' R1' H' P0' P1' Q' Rs' Rq' D L (i + 1) := by
  have hm := h.may
  have hl0 := h.l0; have hl1 := h.l1; have hl2 := h.l2
  have pg : P0.g = c.grain := by rw [h.p0]; rfl
  cases hd : S.may d with
  | false =>
    refine ⟨1, c, ms, mo, R0, R1, H, P0, P1, Q, Rs, Rq, ?_, ?_, ⟨hm, h.d, h.p0, h.p1, h.ov, h.q, h.dl, h.tm, h.z, h.z0, h.sb, by omega, by omega, by omega, h.v0, h.v1⟩⟩
    · unfold S.dcchange; rw [hd]; rfl
    · have e : S.rmchange_p P0.w P0.g P0.lo P0.len P0.nw P0.ov P0.r P1.w P1.g P1.lo P1.len P1.nw P1.ov P1.r d = some (1, P0, P1) := by
        unfold S.rmchange_p S.rmchange; rw [rmay_eq, hd]; rfl
      unfold S.rdcchange
      rw [e]; rfl
  | true =>
    have hdl := ((may_iff d).mp hd).delay
    have q1 : ¬ d.delay < 0 := by omega
    have q2 : ¬ 600 < d.delay := by omega
    have rc : S.rcmost d = S.cmost d := rfl
    have kq := h.q
    by_cases hg : d.grain = c.grain
    · obtain ⟨R0', R1', e, hM, n0, n1, o0, o1⟩ := mchangeD_ok (mo := mo) hd hg h.d.m (by omega) (by omega)
      have f0 := rresize_ok (w := c.stable) (w' := d.stable) (g := d.grain) (nw := R0.nw) (R := Rs) (rokS hd) h.d.m.r0.tk (by omega) h.d.m.b0.1 h.d.m.b0.2 P0.ov
      have f1 := rresize_ok (w := c.panic) (w' := d.panic) (g := d.grain) (nw := R1.nw) (R := Rq) (rokP hd) h.d.m.r1.tk (by omega) h.d.m.b1.1 h.d.m.b1.2 P1.ov
      have ln0 := List.length_filter_le (Kp d.grain (NB d.stable d.grain) R0.nw) Rs
      have ln1 := List.length_filter_le (Kp d.grain (NB d.panic d.grain) R1.nw) Rq
      have w0 : ∀ y ∈ Rs.filter (Kp d.grain (NB d.stable d.grain) R0.nw), y.2 ≤ 1000000000 := fun y hy => h.v0 y (List.mem_filter.mp hy).1
      have w1 : ∀ y ∈ Rq.filter (Kp d.grain (NB d.panic d.grain) R1.nw), y.2 ≤ 1000000000 := fun y hy => h.v1 y (List.mem_filter.mp hy).1
      have k0 := h.p0; have k1 := h.p1; have hov := h.ov
      obtain ⟨pw0, pg0, plo0, plen0, pnw0, pov0, pr0⟩ := P0
      obtain ⟨pw1, pg1, plo1, plen1, pnw1, pov1, pr1⟩ := P1
      unfold rrOf at k0 k1
      simp only [Rr.mk.injEq] at k0 k1
      obtain ⟨rfl, rfl, rfl, rfl, rfl, -, rfl⟩ := k0
      obtain ⟨rfl, rfl, rfl, rfl, rfl, -, rfl⟩ := k1
      have er : S.rmchange_p c.stable c.grain 0 pr0.length R0.nw pov0 pr0 c.panic c.grain 0 pr1.length R1.nw pov1 pr1 d = some (0, rrOf d.stable d.grain R0'.nw pov0 (pr0.filter (Kp d.grain (NB d.stable d.grain) R0.nw)), rrOf d.panic d.grain R1'.nw pov1 (pr1.filter (Kp d.grain (NB d.panic d.grain) R1.nw))) := by
        unfold S.rmchange_p S.rmchange
        simp only at f0 f1
        rw [hg] at f0 f1
        simp only [rmay_eq, hd, hg, f0, f1, n0, n1, optK, Bool.not_true, decide_true, cond_false, Option.bind_some, Sum.elim_inl]
        rfl
      refine ⟨0, d, (if S.cmost d < ms then S.cmost d else ms), mo, R0', R1', ⟨H.lo, H.len, d.delay, H.la, H.l⟩, rrOf d.stable d.grain R0'.nw pov0 (pr0.filter (Kp d.grain (NB d.stable d.grain) R0.nw)), rrOf d.panic d.grain R1'.nw pov1 (pr1.filter (Kp d.grain (NB d.panic d.grain) R1.nw)), rdOf d.delay L, _, _, ?_, ?_, ⟨hd, ⟨hM, rfl, h.d.hold, h.d.times, h.d.la0, h.d.hla, rfl⟩, rfl, rfl, ?_, rfl, h.dl, h.tm, h.z, h.z0, h.sb, by omega, by omega, by omega, w0, w1⟩⟩
      · unfold S.dcchange
        simp only [hd, Bool.not_true, cond_false, e, optK, S.dspan, q1, q2, decide_false]
      · unfold S.rdcchange
        simp only [er, optK, decide_true, Bool.not_true, cond_false, rc, S.rdchange, q1, q2, decide_false, kq, rdOf]
      · rw [o0, o1]; exact hov
    · have hg' : ¬ d.grain = P0.g := by rw [pg]; exact hg
      have er : S.rmchange_p P0.w P0.g P0.lo P0.len P0.nw P0.ov P0.r P1.w P1.g P1.lo P1.len P1.nw P1.ov P1.r d = some (0, rrOf d.stable d.grain (-1) (P0.ov || P1.ov) [], rrOf d.panic d.grain (-1) false []) := by
        unfold S.rmchange_p S.rmchange
        simp only [rmay_eq, hd, hg', rnew_yes (rokS hd), rnew_yes (rokP hd), optK, Bool.not_true, Bool.not_false, decide_false, cond_true, cond_false, Sum.elim_inr, rmoverD_eq, Option.bind_some, Sum.elim_inl]
        rfl
      have em : S.mchange c mo R0 R1 d = some (0, d, (mo || R0.ov || R1.ov), rg0 d.stable d.grain, rg0 d.panic d.grain) := by
        unfold S.mchange
        simp only [hd, hg, mnew_yes hd, optK, Bool.not_true, Bool.not_false, decide_false, cond_true, cond_false, Sum.elim_inr, moverD_eq]
      refine ⟨0, d, (if S.cmost d < ms then S.cmost d else ms), (mo || R0.ov || R1.ov), rg0 d.stable d.grain, rg0 d.panic d.grain, ⟨H.lo, H.len, d.delay, H.la, H.l⟩, rrOf d.stable d.grain (-1) (P0.ov || P1.ov) [], rrOf d.panic d.grain (-1) false [], rdOf d.delay L, [], [], ?_, ?_, ⟨hd, ⟨mrel0 d, rfl, h.d.hold, h.d.times, h.d.la0, h.d.hla, rfl⟩, rfl, rfl, ?_, rfl, h.dl, h.tm, h.z, h.z0, h.sb, by simp, by simp, by omega, fun _ hh => (by cases hh), fun _ hh => (by cases hh)⟩⟩
      · unfold S.dcchange
        simp only [hd, Bool.not_true, cond_false, em, optK, S.dspan, q1, q2, decide_false]
      · unfold S.rdcchange
        simp only [er, optK, decide_true, Bool.not_true, cond_false, rc, S.rdchange, q1, q2, decide_false, kq, rdOf]
      · rw [h.ov]; simp [rg0, rrOf]

theorem rdcnew_yes {c : Cf} (hm : S.may c = true) : S.rdcnew_p c = some (.inr (c, rrOf c.stable c.grain (-1) false [], rrOf c.panic c.grain (-1) false [], rdOf c.delay [])) := by
  have hd := ((may_iff c).mp hm).delay
  have p1 : ¬ c.delay < 0 := by omega
  have p2 : ¬ 600 < c.delay := by omega
  have e2 : S.rmnew_p c = some (.inr (rrOf c.stable c.grain (-1) false [], rrOf c.panic c.grain (-1) false [])) := by
    unfold S.rmnew_p S.rmnew
    simp only [cf_etaW, rmay_eq, hm, Bool.not_true, cond_false, rnew_yes (rokS hm), rnew_yes (rokP hm), Option.bind_some, Sum.elim_inr]
    rfl
  unfold S.rdcnew_p S.rdcnew
  simp only [cf_etaW, rmay_eq, hm, Bool.not_true, cond_false, e2, optK, Sum.elim_inr, S.rdnew, p1, p2, decide_false, Option.bind_some]
  rfl
theorem rdcnew_no {c : Cf} (hm : S.may c = false) : S.rdcnew_p c = some (.inl ()) := by
  unfold S.rdcnew_p S.rdcnew
  simp only [cf_etaW, rmay_eq, hm, Bool.not_false, cond_true, Option.bind_some, Sum.elim_inl]
theorem dcnew_no {c : Cf} (hm : S.may c = false) : S.dcnew_p c = some (.inl ()) := by
  unfold S.dcnew_p S.dcnew
  simp only [cf_etaW, hm, Bool.not_false, cond_true, Option.bind_some, Sum.elim_inl]
theorem dp0 {c : Cf} (hm : S.may c = true) : DP c (-1) 0 false (rg0 c.stable c.grain) (rg0 c.panic c.grain) ⟨0, 0, c.delay, 0, []⟩ (rrOf c.stable c.grain (-1) false []) (rrOf c.panic c.grain (-1) false []) (rdOf c.delay []) [] [] [] [] 0 :=
  ⟨hm, drel0 c, rfl, rfl, rfl, rfl, rfl, fun _ h => (by cases h), fun x h => (by simp at h), by simp, by omega, by simp, by simp, by simp, fun _ h => (by cases h), fun _ h => (by cases h)⟩
end Go.Proofs.YtdgipcjigbagfaaGreat.AB
