/- Layer 13: what the functions come to. -/
import Derived.Test.YtdgipcjigbagfaaGreatPlNums
import Derived.Test.YtdgipcjigbagfaaGreatSdecidez
import Derived.Test.YtdgipcjigbagfaaGreatPlMuls
import Derived.Test.YtdgipcjigbagfaaGreatPlRings
import Derived.Test.YtdgipcjigbagfaaGreatSdelay
namespace Go.Proofs.YtdgipcjigbagfaaGreat.AB
set_option linter.unusedVariables false
set_option linter.unusedSimpArgs false

theorem cf_etaR (c : Cf) : Cf.mk c.target c.util c.stable c.panic c.grain c.threshold c.up c.down c.min c.max c.initial c.grace c.delay c.burst c.limit c.queue c.timeout c.ready c.subset c.sample = c := rfl

theorem mdown_nn {a b : Int} (ha : 0 ≤ a) (a1 : a < 9223372036854775807) (hb : 0 < b) : S.mdown a b = some (a / b, 0) := by
  unfold S.mdown
  rw [mhalf_nn ha (by omega) hb]
  have e1 : ¬ b = 0 := by omega
  have e2 : ¬ a < 0 := by omega
  have e3 : ¬ b < 0 := by omega
  simp [optK, e1, e2, e3]

theorem rup_eq (a b : Int) : S.rup a b = S.mup a b := by
  unfold S.rup S.mup S.mhalf
  by_cases h1 : b = 0
  · simp [h1, optK]
  · by_cases h2 : a = -9223372036854775808
    · by_cases h3 : b = -1
      · simp [h2, h3, optK]
      · by_cases h4 : Int.tmod (-9223372036854775808) b = 0 <;> by_cases h5 : b < 0 <;> simp [h1, h2, h3, h4, h5, optK]
    · by_cases h4 : Int.tmod a b = 0 <;> by_cases h5 : a < 0 <;> by_cases h6 : b < 0 <;> simp [h1, h2, h4, h5, h6, optK]

theorem rthere_eq (n lo : Int) : S.rthere n lo = S.rcut n lo := rfl

theorem rcut_range (n lo : Int) (h : 0 ≤ lo) (h1 : lo ≤ 1000000) : lo ≤ S.rcut n lo ∧ S.rcut n lo ≤ 1000000 := by
  unfold S.rcut
  repeat' split
  all_goals omega

/-- the most, the least, what is let through -/
noncomputable def Mo (c : Cf) (r : Int) : Int := if 1000000 < (c.up * S.rcut r 1 + 999) / 1000 then 1000000 else (c.up * S.rcut r 1 + 999) / 1000
noncomputable def Le (c : Cf) (r : Int) : Int := 1000 * S.rcut r 0 / c.down
noncomputable def Li (c : Cf) (w r : Int) : Int := if Mo c r < (if Le c r > w then Le c r else w) then Mo c r else (if Le c r > w then Le c r else w)

theorem up_range {u x : Int} (u0 : 1001 ≤ u) (u1 : u ≤ 1000000) (x0 : 1 ≤ x) (x1 : x ≤ 1000000) : 0 ≤ u * x ∧ u * x ≤ 1000000000000 := by
  refine ⟨Int.mul_nonneg (by omega) (by omega), ?_⟩
  have := Int.mul_le_mul u1 x1 (by omega) (by omega)
  omega

theorem most_eq (c : Cf) (hm : S.may c = true) (r : Int) : S.most c r = some (Mo c r) := by
  have hc := (may_iff c).mp hm
  obtain ⟨x0, x1⟩ := rcut_range r 1 (by omega) (by omega)
  obtain ⟨p0, p1⟩ := up_range hc.up.1 hc.up.2 x0 x1
  unfold S.most Mo
  simp only [cf_etaR, hm, Bool.not_true, cond_false, rthere_eq]
  rw [wrap_id (n := c.up * S.rcut r 1) (by omega) (by omega), mup_nn p0 (by omega) (by decide)]
  simp only [optK, cdiv_1000]

theorem least_eq (c : Cf) (hm : S.may c = true) (r : Int) : S.least c r = some (Le c r) := by
  have hc := (may_iff c).mp hm
  obtain ⟨x0, x1⟩ := rcut_range r 0 (by omega) (by omega)
  have hd := hc.down
  unfold S.least Le
  simp only [cf_etaR, hm, Bool.not_true, cond_false, rthere_eq]
  rw [wrap_id (n := 1000 * S.rcut r 0) (by omega) (by omega), mdown_nn (by omega) (by omega) (by omega)]
  simp only [optK]

theorem limit_eq (c : Cf) (hm : S.may c = true) (w r : Int) : S.limit c w r = some (Li c w r) := by
  unfold S.limit Li
  simp only [cf_etaR, hm, Bool.not_true, cond_false, most_eq c hm r, least_eq c hm r, optK]

theorem rmost_eq (c : Cf) (r : Int) : S.rmost c r = S.most c r := by
  unfold S.rmost S.most
  simp only [cf_etaR, rmay_eq, rup_eq, rthere_eq]

theorem rleast_eq (c : Cf) (r : Int) : S.rleast c r = S.least c r := by
  cases hm : S.may c with
  | false => simp [S.rleast, S.least, cf_etaR, rmay_eq, hm]
  | true =>
    have hc := (may_iff c).mp hm
    obtain ⟨x0, x1⟩ := rcut_range r 0 (by omega) (by omega)
    have hd := hc.down
    obtain ⟨q0, q1⟩ := ediv_range (a := 1000 * S.rcut r 0) (b := c.down) (by omega) (by omega) (by omega)
    rw [least_eq c hm r]
    unfold S.rleast Le
    simp only [cf_etaR, rmay_eq, hm, Bool.not_true, cond_false]
    have e : ¬ c.down = 0 := by omega
    rw [wrap_id (n := 1000 * S.rcut r 0) (by omega) (by omega), Int.tdiv_eq_ediv_of_nonneg (by omega), wrap_id (n := 1000 * S.rcut r 0 / c.down) (by omega) (by omega)]
    simp [e]

theorem rcut_small (r lo : Int) (h0 : 0 ≤ r) (h1 : r ≤ 1000000) (hl : 0 ≤ lo) (hl1 : lo ≤ 1) : S.rcut r lo = if r < lo then lo else r := by
  unfold S.rcut
  repeat' split
  all_goals omega

theorem Mo_gt (c : Cf) (hm : S.may c = true) (r : Int) (h0 : 0 ≤ r) (h1 : r ≤ 10000) : r < Mo c r ∧ Mo c r ≤ 1000000 := by
  have hc := (may_iff c).mp hm
  have e := rcut_small r 1 h0 (by omega) (by omega) (by omega)
  obtain ⟨x0, x1⟩ := rcut_range r 1 (by omega) (by omega)
  unfold Mo
  have hx : r ≤ S.rcut r 1 := by rw [e]; split <;> omega
  generalize S.rcut r 1 = x at *
  have hp : 1001 * x ≤ c.up * x := Int.mul_le_mul_of_nonneg_right hc.up.1 (by omega)
  generalize c.up * x = p at *
  split <;> omega

theorem Le_lt (c : Cf) (hm : S.may c = true) (r : Int) (h0 : 0 ≤ r) (h1 : r ≤ 1000000) : 0 ≤ Le c r ∧ Le c r ≤ r ∧ (r = 0 ∨ Le c r < r) := by
  have hc := (may_iff c).mp hm
  have e := rcut_small r 0 h0 h1 (by omega) (by omega)
  have hd := hc.down
  unfold Le
  rw [e, if_neg (by omega)]
  obtain ⟨q0, q1⟩ := ediv_range (a := 1000 * r) (b := c.down) (by omega) (by omega) (by omega)
  have h2 := Int.ediv_mul_le (1000 * r) (b := c.down) (by omega)
  generalize 1000 * r / c.down = q at *
  have h3 : q * 1001 ≤ q * c.down := Int.mul_le_mul_of_nonneg_left hd.1 q0
  omega

end Go.Proofs.YtdgipcjigbagfaaGreat.AB
namespace Go.Proofs.YtdgipcjigbagfaaGreat.AB
set_option linter.unusedVariables false
set_option linter.unusedSimpArgs false

theorem cf_etaW (c : Cf) : Cf.mk c.target c.util c.stable c.panic c.grain c.threshold c.up c.down c.min c.max c.initial c.grace c.delay c.burst c.limit c.queue c.timeout c.ready c.subset c.sample = c := rfl

theorem mulS_in {a b : Int} (h0 : -9223372036854775808 ≤ a * b / 1000) (h1 : a * b / 1000 ≤ 9223372036854775807) : mulS a b = (a * b / 1000, 0) := by
  unfold mulS; rw [if_neg (by omega), if_neg (by omega)]

/-- a pod's share -/
def Pe (c : Cf) : Int := if 1 > c.target * c.util / 1000 then 1 else c.target * c.util / 1000

theorem tu_range (c : Cf) (hm : S.may c = true) : 1000 ≤ c.target * c.util ∧ c.target * c.util ≤ 1000000000 := by
  have hc := (may_iff c).mp hm
  have h1 := hc.target
  have h2 := hc.util
  have a1 := Int.mul_le_mul h1.1 h2.1 (by decide) (by omega)
  have a2 := Int.mul_le_mul h1.2 h2.2 (by omega) (by omega)
  omega

theorem Pe_range (c : Cf) (hm : S.may c = true) : 1 ≤ Pe c ∧ Pe c ≤ 1000000 := by
  have := tu_range c hm
  unfold Pe; split <;> omega

theorem per_eq (c : Cf) (hm : S.may c = true) : S.per c = some (Pe c) := by
  have ht := tu_range c hm
  have hc := (may_iff c).mp hm
  have h1 := hc.target
  have h2 := hc.util
  unfold S.per
  rw [mmul_eq (by omega) (by omega) (by omega) (by omega), mulS_in (by omega) (by omega)]
  rfl

/-- cut between bounds -/
def clampF (a lo hi : Int) : Int := if hi < a then hi else if a < lo then lo else a
theorem mclamp_eq (a lo hi : Int) : S.mclamp a lo hi = clampF a lo hi := by
  unfold S.mclamp clampF; by_cases h1 : hi < a <;> by_cases h2 : a < lo <;> simp [h1, h2]
theorem clampF_range (a lo hi : Int) (h : lo ≤ hi) : lo ≤ clampF a lo hi ∧ clampF a lo hi ≤ hi := by
  unfold clampF; split
  · omega
  · split <;> omega
theorem clampF_mono (a b lo hi : Int) (h : a ≤ b) (h2 : lo ≤ hi) : clampF a lo hi ≤ clampF b lo hi := by
  unfold clampF; split <;> split <;> (try split) <;> (try split) <;> omega


/-- how many pods a load wants -/
def Wn (c : Cf) (m : Int) : Int := clampF (cdiv m (Pe c)) 0 1000000
theorem wof_eq (c : Cf) (hm : S.may c = true) (m : Int) (m0 : 0 ≤ m) (m1 : m < 9223372036854775807) : S.wof c m = some (Wn c m) := by
  have hp := Pe_range c hm
  unfold S.wof Wn
  simp only [cf_etaW, hm, Bool.not_true, cond_false, per_eq c hm, mup_nn m0 m1 (b := Pe c) (by omega), optK, S.wnum, mclamp_eq]
theorem Wn_range (c : Cf) (m : Int) : 0 ≤ Wn c m ∧ Wn c m ≤ 1000000 := clampF_range _ 0 1000000 (by omega)
theorem Li_range (c : Cf) (hm : S.may c = true) (w r : Int) (w0 : 0 ≤ w) (w1 : w ≤ 1000000) (r0 : 0 ≤ r) (r1 : r ≤ 10000) : 0 ≤ Li c w r ∧ Li c w r ≤ 1000000 := by
  have h1 := Mo_gt c hm r r0 r1
  have h2 := Le_lt c hm r r0 (by omega)
  unfold Li; split <;> (try split) <;> omega

theorem is_eq (t m : Int) : S.is t m = decide (0 ≤ t) := rfl

theorem next_eq (c : Cf) (t m now : Int) (over : Bool) : S.next c t m now over =
    if !S.may c || decide (now < 0) || decide (1099511627776 < now) then (t, m)
    else if over then (if 0 ≤ t then (now, m) else (now, 0))
    else if 0 ≤ t ∧ c.stable ≤ IntKind.i64.wrap (now - t) then (-1, 0) else (t, m) := by
  unfold S.next
  have e : (Cf.mk c.target c.util c.stable c.panic c.grain c.threshold c.up c.down c.min c.max c.initial c.grace c.delay c.burst c.limit c.queue c.timeout c.ready c.subset c.sample) = c := rfl
  simp only [e, is_eq]
  cases S.may c <;> by_cases h1 : now < 0 <;> by_cases h2 : 1099511627776 < now <;> cases over <;> by_cases h3 : 0 ≤ t <;> by_cases h4 : c.stable ≤ IntKind.i64.wrap (now - t) <;> simp [h1, h2, h3, h4]
end Go.Proofs.YtdgipcjigbagfaaGreat.AB
namespace Go.Proofs.YtdgipcjigbagfaaGreat.AB
set_option linter.unusedVariables false
set_option linter.unusedSimpArgs false

def keepT (t : Int) (x : Int × Int) : Bool := decide (t - x.1 ≤ 600)

/-- what a slice of rows holds -/
structure Holds (l : WL) (lo len : Nat) (q : List (Int × Int)) : Prop where
  cut : cutL l lo len = q.map some
  fit : lo + len ≤ l.length

theorem Holds.len {l : WL} {lo len : Nat} {q : List (Int × Int)} (h : Holds l lo len q) : q.length = len := by
  have h1 := congrArg List.length h.cut
  have h2 := h.fit
  simp [cutL] at h1
  omega

theorem Holds.get {l : WL} {lo len : Nat} {q : List (Int × Int)} (h : Holds l lo len q) (k : Nat) (x : Int × Int) (hx : q[k]? = some x) : l[k + lo]? = some (some x) := by
  have h1 : (cutL l lo len)[k]? = some (some x) := by rw [h.cut]; simp [hx]
  unfold cutL at h1
  rw [List.getElem?_take] at h1
  split at h1
  · rw [List.getElem?_drop] at h1
    rw [Nat.add_comm]; exact h1
  · cases h1

theorem wrap_sub {t x : Int} (t0 : 0 ≤ t) (t1 : t ≤ 2000000000000) (x0 : 0 ≤ x) (x1 : x ≤ 1099511627776) : IntKind.wrap .i64 (t - x) = t - x := wrap_id (by omega) (by omega)

theorem dold_eq {x w t : Int} (t0 : 0 ≤ t) (t1 : t ≤ 2000000000000) (x0 : 0 ≤ x) (x1 : x ≤ 1099511627776) : S.dold x w t = !keepT t (x, w) := by
  unfold S.dold keepT
  rw [wrap_sub t0 t1 x0 x1]
  by_cases h : t - x ≤ 600
  · have : ¬ 600 < t - x := by omega
    simp [h, this]
  · have : 600 < t - x := by omega
    simp [h, this]

def Times (q : List (Int × Int)) : Prop := ∀ x ∈ q, 0 ≤ x.1 ∧ x.1 ≤ 1099511627776

theorem dix_loop (fu : Nat) {l : WL} {lo len : Nat} {q : List (Int × Int)} (h : Holds l lo len q) (hq : Times q) {t : Int} (t0 : 0 ≤ t) (t1 : t ≤ 2000000000000) (hl : len < 1000000) :
    ∀ (n k : Nat), k ≤ len → len < n + k → (∀ x ∈ q.take k, keepT t x = true) →
      (S.dix_l0 fu l lo len t n k = some (.inr (len, false)) ∧ ∀ x ∈ q, keepT t x = true) ∨
      (∃ i : Nat, i < len ∧ S.dix_l0 fu l lo len t n k = some (.inl (i : Int)) ∧ (∀ x ∈ q.take i, keepT t x = true) ∧ ∀ x, q[i]? = some x → keepT t x = false) := by
  intro n
  induction n with
  | zero => intro k _ _ _; omega
  | succ n ih =>
    intro k hk hn hd
    have hlen := h.len
    unfold S.dix_l0
    by_cases c : k < len
    · have g1 : ((k : Int) < (len : Int)) := by omega
      have g2 : inB (k : Int) len = true := by unfold inB; simp; omega
      obtain ⟨x, hx⟩ : ∃ x, q[k]? = some x := ⟨q[k]'(by omega), by simp⟩
      have g3 : l[Int.toNat (k : Int) + lo]? = some (some x) := by simpa using h.get k x hx
      have hxm := List.mem_of_getElem? hx
      obtain ⟨x0, x1⟩ := hq x hxm
      have hw : IntKind.wrap .i64 ((k : Int) + 1) = ((k + 1 : Nat) : Int) := by rw [wrap_id (by omega) (by omega)]; omega
      simp only [g1, g2, g3, decide_true, cond_true, optK, optC, dold_eq t0 t1 x0 x1, hw]
      cases hkp : keepT t x with
      | true =>
        have hkp' : keepT t (x.1, x.2) = true := hkp
        simp only [hkp', Bool.not_true, cond_false]
        refine ih (k + 1) (by omega) (by omega) fun y hy => ?_
        rw [List.take_add_one, hx] at hy
        simp at hy
        rcases hy with hy | hy
        · exact hd y hy
        · rw [hy]; exact hkp
      | false =>
        have hkp' : keepT t (x.1, x.2) = false := hkp
        simp only [hkp', Bool.not_false, cond_true]
        refine .inr ⟨k, c, rfl, hd, fun y hy => ?_⟩
        rw [hx] at hy; injection hy with hy; rw [← hy]; exact hkp
    · have g1 : ¬ ((k : Int) < (len : Int)) := by omega
      have hk2 : k = len := by omega
      simp only [g1, decide_false, cond_false]
      refine .inl ⟨by rw [hk2], fun x hx => ?_⟩
      refine hd x ?_
      rw [List.take_of_length_le (by omega)]; exact hx

theorem cutL_set {α : Type} (y : List α) (lo i : Nat) (v : α) (h : i + lo < y.length) : cutL (y.set (i + lo) v) lo (i + 1) = cutL y lo i ++ [v] := by
  unfold cutL
  apply List.ext_getElem?
  intro k
  simp only [List.getElem?_take, List.getElem?_drop, List.getElem?_set, List.getElem?_append]
  have hl : ((y.drop lo).take i).length = i := by simp; omega
  rw [hl]
  by_cases h1 : k < i
  · have h2 : ¬ (i + lo = lo + k) := by omega
    have h3 : k < i + 1 := by omega
    simp [h1, h2, h3]
  · by_cases h2 : k = i
    · subst h2
      have h3 : k + lo = lo + k := by omega
      simp [h3]; omega
    · have h3 : ¬ k < i + 1 := by omega
      have h5 : ([v] : List α)[k - i]? = none := List.getElem?_eq_none (by simp; omega)
      simp only [h1, h3, if_false, h5]

theorem ddel_loop (fu : Nat) {l : WL} {lo len : Nat} {q : List (Int × Int)} (h : Holds l lo len q) (hq : Times q) {t : Int} (t0 : 0 ≤ t) (t1 : t ≤ 2000000000000) (hl : len < 1000000) :
    ∀ (n j i : Nat) (y : WL), i ≤ j → j ≤ len → len < n + j → y.length = l.length → (∀ k x, j ≤ k → q[k]? = some x → y[k + lo]? = some (some x)) → cutL y lo i = ((q.take j).filter (keepT t)).map some →
      ∃ (i' : Nat) (y' : WL), S.ddel_l0 fu l lo len t n i j y = some ((i' : Int), (len : Int), false, y') ∧ i' ≤ len ∧ y'.length = l.length ∧ cutL y' lo i' = (q.filter (keepT t)).map some := by
  intro n
  induction n with
  | zero => intro j i y _ _ _ _ _ _; omega
  | succ n ih =>
    intro j i y hij hj hn hyl hy hcut
    have hlen := h.len
    have hfit := h.fit
    unfold S.ddel_l0
    by_cases c : j < len
    · have g1 : ((j : Int) < (len : Int)) := by omega
      have g2 : inB (j : Int) len = true := by unfold inB; simp; omega
      obtain ⟨x, hx⟩ : ∃ x, q[j]? = some x := ⟨q[j]'(by omega), by simp⟩
      have g3 : y[Int.toNat (j : Int) + lo]? = some (some x) := by simpa using hy j x (Nat.le_refl _) hx
      obtain ⟨x0, x1⟩ := hq x (List.mem_of_getElem? hx)
      have hw : IntKind.wrap .i64 ((j : Int) + 1) = ((j + 1 : Nat) : Int) := by rw [wrap_id (by omega) (by omega)]; omega
      have hw2 : IntKind.wrap .i64 ((i : Int) + 1) = ((i + 1 : Nat) : Int) := by rw [wrap_id (by omega) (by omega)]; omega
      simp only [g1, g2, g3, decide_true, cond_true, optK, optC, dold_eq t0 t1 x0 x1, hw, hw2]
      have htk : (q.take (j + 1)).filter (keepT t) = (q.take j).filter (keepT t) ++ (if keepT t x then [x] else []) := by
        rw [List.take_add_one, hx]
        simp only [Option.toList, List.filter_append]
        congr 1
        by_cases hk : keepT t x <;> simp [hk]
      cases hkp : keepT t x with
      | true =>
        have hkp' : keepT t (x.1, x.2) = true := hkp
        have g4 : inB (i : Int) len = true := by unfold inB; simp; omega
        have g5 : Nat.blt (Int.toNat (i : Int) + lo) (List.length y) = true := by
          simp only [Int.toNat_natCast]; exact Nat.blt_eq.mpr (by omega)
        simp only [hkp', Bool.not_true, Bool.not_false, cond_true, g4, g5]
        refine ih (j + 1) (i + 1) (List.set y (Int.toNat (i : Int) + lo) (some (x.1, x.2))) (by omega) (by omega) (by omega) (by simp [hyl]) (fun k z hk hz => ?_) ?_
        · rw [List.getElem?_set]
          have : ¬ (Int.toNat (i : Int) + lo = k + lo) := by simp; omega
          rw [if_neg this]
          exact hy k z (by omega) hz
        · rw [htk, hkp]
          simp only [Int.toNat_natCast, if_true, List.map_append, List.map_cons, List.map_nil]
          rw [cutL_set _ _ _ _ (by omega), hcut]
      | false =>
        have hkp' : keepT t (x.1, x.2) = false := hkp
        simp only [hkp', Bool.not_true, Bool.not_false, cond_true, cond_false]
        refine ih (j + 1) i y (by omega) (by omega) (by omega) hyl (fun k z hk hz => hy k z (by omega) hz) ?_
        rw [htk, hkp, hcut]; simp
    · have g1 : ¬ ((j : Int) < (len : Int)) := by omega
      have hj2 : j = len := by omega
      simp only [g1, decide_false, cond_false]
      refine ⟨i, y, by rw [hj2], by omega, hyl, ?_⟩
      rw [hcut, List.take_of_length_le (by omega)]

theorem cutL_left {α : Type} (z r : List α) (lo i : Nat) : cutL (z.take (i + lo) ++ r) lo i = cutL z lo i ∨ z.length < i + lo := by
  by_cases h : z.length < i + lo
  · exact .inr h
  · left
    unfold cutL
    have h1 : (z.take (i + lo)).length = i + lo := by simp; omega
    rw [List.drop_append_of_le_length (by omega), List.take_append_of_le_length (by simp; omega), List.drop_take]
    rw [show i + lo - lo = i by omega, List.take_take, Nat.min_self]

theorem ddel_eq {l : WL} {lo len : Nat} {q : List (Int × Int)} (h : Holds l lo len q) (hq : Times q) {t : Int} (t0 : 0 ≤ t) (t1 : t ≤ 2000000000000) (hl : len < 90000) :
    ∃ (lo1 len1 : Nat) (l1 : WL), S.ddel 100000 l lo len t = some (lo1, len1, l1, t) ∧ cutL l1 lo1 len1 = (q.filter (keepT t)).map some ∧ len1 ≤ len := by
  have hlen := h.len
  have hfit := h.fit
  unfold S.ddel S.dix
  rcases dix_loop 100000 h hq t0 t1 (by omega) 100000 0 (by omega) (by omega) (by simp) with ⟨e, hall⟩ | ⟨i, hi, e, hd, hnk⟩
  · have e' : S.dix_l0 100000 l lo len t 100000 0 = some (.inr (len, false)) := e
    rw [e']
    simp only [optK, Sum.elim_inr, S.dix_a0_1, decide_true, cond_true]
    refine ⟨lo, len, l, rfl, ?_, Nat.le_refl _⟩
    rw [h.cut, List.filter_eq_self.mpr hall]
  · have e' : S.dix_l0 100000 l lo len t 100000 0 = some (.inl (i : Int)) := e
    rw [e']
    have hne : ¬ ((i : Int) = -1) := by omega
    have hw : IntKind.wrap .i64 ((i : Int) + 1) = ((i + 1 : Nat) : Int) := by rw [wrap_id (by omega) (by omega)]; omega
    simp only [optK, Sum.elim_inl, S.dix_a0_0, hne, decide_false, cond_false, hw]
    obtain ⟨x, hx⟩ : ∃ x, q[i]? = some x := ⟨q[i]'(by omega), by simp⟩
    have hxk := hnk x hx
    have hc0 : cutL l lo i = ((q.take (i + 1)).filter (keepT t)).map some := by
      have h1 : (q.take (i + 1)).filter (keepT t) = q.take i := by
        rw [List.take_add_one, hx]
        simp only [Option.toList, List.filter_append, List.filter_eq_self.mpr hd]
        simp [hxk]
      rw [h1, List.map_take, ← h.cut]
      unfold cutL
      rw [List.take_take, Nat.min_eq_left (by omega)]
    obtain ⟨i', y', e2, h1, h2, h3⟩ := ddel_loop 100000 h hq t0 t1 (by omega) 100000 (i + 1) i l (by omega) (by omega) (by omega) rfl (fun k z hk hz => h.get k z hz) hc0
    have e3 : S.ddel_l0 100000 l lo len t 100000 (i : Int) ((i + 1 : Nat) : Int) l = some ((i' : Int), (len : Int), false, y') := e2
    rw [e3]
    unfold S.ddel_a0_0
    have g1 : (0 ≤ (i' : Int) ∧ (i' : Int) ≤ (len : Int)) := by omega
    have g2 : Nat.ble (Int.toNat (i' : Int) + lo + (len - Int.toNat (i' : Int))) (List.length y') = true := by
      simp only [Int.toNat_natCast]; exact Nat.ble_eq.mpr (by omega)
    simp only [g1, g2, and_self, decide_true, cond_true]
    refine ⟨lo, _, _, rfl, ?_, by simpa using h1⟩
    simp only [Int.toNat_natCast]
    rcases cutL_left y' (fillRows none (len - i') (List.drop (i' + lo) y')) lo i' with h4 | h4
    · rw [h4, h3]
    · omega

theorem Holds.whole (q : List (Int × Int)) : Holds (q.map some) 0 q.length q := ⟨by rw [show q.length = (q.map some).length by simp, cutL_all], by simp⟩

/-- what is put -/
theorem dput_yes {l : WL} {lo len : Nat} {q : List (Int × Int)} (h : Holds l lo len q) (hq : Times q) {sp la t w : Int} (ht : la ≤ t) (t0 : 0 ≤ t) (t1 : t ≤ 1099511627776) (w0 : 0 ≤ w) (w1 : w ≤ 1000000) (hl : len < 90000) :
    ∃ q', q' = q.filter (keepT t) ++ [(t, w)] ∧ S.dput l lo len sp la t w = some (0, 0, q'.length, sp, t, q'.map some) := by
  obtain ⟨lo1, len1, l1, e, hc, hle⟩ := ddel_eq h hq t0 (by omega) hl
  refine ⟨_, rfl, ?_⟩
  unfold S.dput
  have g1 : ¬ t < la := by omega
  have g2 : ¬ 1099511627776 < t := by omega
  have g3 : ¬ w < 0 := by omega
  have g4 : ¬ 1000000 < w := by omega
  have g5 : (Nat.beq 1 1 && Nat.blt 0 16 && Nat.beq 1 1 && Nat.beq 1 1 && Nat.beq 1 1 && Nat.blt 0 1 && !Nat.beq 1 3 && Nat.ble ((len1 + 1) * 16) 35184372088832) = true := by
    have : Nat.ble ((len1 + 1) * 16) 35184372088832 = true := Nat.ble_eq.mpr (by omega)
    rw [this]; rfl
  simp only [g1, g2, g3, g4, decide_false, cond_false, e, optK, g5, cond_true, hc]
  have e2 : cutL [some (t, w)] 0 1 = [some (t, w)] := rfl
  rw [e2]
  have e3 : List.map some (q.filter (keepT t)) ++ [some (t, w)] = (q.filter (keepT t) ++ [(t, w)]).map some := by simp
  rw [e3, List.length_map]

theorem dput_no {l : WL} {lo len : Nat} {sp la t w : Int} (h : t < la ∨ 1099511627776 < t ∨ w < 0 ∨ 1000000 < w) : S.dput l lo len sp la t w = some (1, lo, len, sp, la, l) := by
  unfold S.dput
  by_cases g1 : t < la
  · simp [g1]
  · by_cases g2 : 1099511627776 < t
    · simp [g1, g2]
    · by_cases g3 : w < 0
      · simp [g1, g2, g3]
      · have g4 : 1000000 < w := by omega
        simp [g1, g2, g3, g4]

/-- counts still -/
def counts (sp t : Int) (x : Int × Int) : Bool := decide (t ≤ x.1) || decide (t - x.1 < sp)
def mostFrom (sp t : Int) : Int → List (Int × Int) → Int
  | m, [] => m
  | m, x :: r => mostFrom sp t (if counts sp t x then (if x.2 > m then x.2 else m) else m) r

theorem dmost_loop (fu : Nat) {l : WL} {lo len : Nat} {q : List (Int × Int)} (h : Holds l lo len q) (hq : Times q) {sp la t : Int} (t0 : 0 ≤ t) (t1 : t ≤ 2000000000000) (hl : len < 1000000) :
    ∀ (n k : Nat) (m : Int), k ≤ len → len < n + k → S.dmost_l0 fu l lo len sp la t n m k = some (mostFrom sp t m (q.drop k), (len : Int), false) := by
  intro n
  induction n with
  | zero => intro k m _ _; omega
  | succ n ih =>
    intro k m hk hn
    have hlen := h.len
    unfold S.dmost_l0
    by_cases c : k < len
    · have g1 : ((k : Int) < (len : Int)) := by omega
      have g2 : inB (k : Int) len = true := by unfold inB; simp; omega
      obtain ⟨x, hx⟩ : ∃ x, q[k]? = some x := ⟨q[k]'(by omega), by simp⟩
      have g3 : l[Int.toNat (k : Int) + lo]? = some (some x) := by simpa using h.get k x hx
      obtain ⟨x0, x1⟩ := hq x (List.mem_of_getElem? hx)
      have hw : IntKind.wrap .i64 ((k : Int) + 1) = ((k + 1 : Nat) : Int) := by rw [wrap_id (by omega) (by omega)]; omega
      have ht : (if (0 : Int) > t then 0 else t) = t := by rw [if_neg (by omega)]
      have hd : q.drop k = x :: q.drop (k + 1) := by
        rw [List.drop_eq_getElem_cons (by omega)]
        congr 1
        have := hx; rw [List.getElem?_eq_getElem (by omega)] at this; injection this
      simp only [g1, g2, g3, decide_true, cond_true, optK, optC, hw, ht, wrap_sub t0 t1 x0 x1]
      rw [hd]
      unfold mostFrom counts
      by_cases c1 : t ≤ x.1
      · simp only [c1, decide_true, cond_true, Bool.true_or, if_true]
        exact ih (k + 1) _ (by omega) (by omega)
      · by_cases c2 : t - x.1 < sp
        · simp only [c1, c2, decide_true, decide_false, cond_true, cond_false, Bool.false_or, if_true]
          exact ih (k + 1) _ (by omega) (by omega)
        · simp only [c1, c2, decide_false, cond_false, Bool.or_self, Bool.false_eq_true, if_false]
          exact ih (k + 1) _ (by omega) (by omega)
    · have g1 : ¬ ((k : Int) < (len : Int)) := by omega
      have hk2 : k = len := by omega
      simp only [g1, decide_false, cond_false]
      rw [List.drop_eq_nil_of_le (by omega), hk2]; rfl

theorem dmost_eq {l : WL} {lo len : Nat} {q : List (Int × Int)} (h : Holds l lo len q) (hq : Times q) {sp la t : Int} (t0 : 0 ≤ t) (t1 : t ≤ 2000000000000) (hl : len < 90000) :
    S.dmost 100000 l lo len sp la t = some (mostFrom sp t 0 q) := by
  unfold S.dmost S.dmost_a0_0
  have := dmost_loop 100000 h hq (sp := sp) (la := la) t0 t1 (by omega) 100000 0 0 (by omega) (by omega)
  have e : S.dmost_l0 100000 l lo len sp la t 100000 0 0 = some (mostFrom sp t 0 q, (len : Int), false) := this
  rw [e]; rfl
end Go.Proofs.YtdgipcjigbagfaaGreat.AB
namespace Go.Proofs.YtdgipcjigbagfaaGreat.AB
set_option linter.unusedVariables false
set_option linter.unusedSimpArgs false

/-- a mean within a window; whether its sum is cut -/
def mn (w g t : Int) (R : List (Int × Int)) : Int := meanOf (min M63 (vs g (inW (NB w g) (t.tdiv g)) R)) (ns g (inW (NB w g) (t.tdiv g)) R)
def mov (w g t : Int) (R : List (Int × Int)) : Bool := over (vs g (inW (NB w g) (t.tdiv g)) R)

theorem vs_le {V g : Int} {W : Int → Bool} : ∀ {R : List (Int × Int)}, (∀ y ∈ R, y.2 ≤ V) → vs g W R ≤ V * ns g W R
  | [], _ => by simp [vs, ns, wsum]
  | x :: R, h => by
    have ih := vs_le (V := V) (g := g) (W := W) (R := R) (fun y hy => h y (by simp [hy]))
    have hx := h x (by simp)
    unfold vs ns at ih ⊢
    simp only [wsum]
    rw [Int.mul_add]
    split
    · rw [Int.mul_one]; omega
    · rw [Int.mul_zero]; omega
theorem mn_range {V w g t : Int} {R : List (Int × Int)} (hR : ∀ y ∈ R, Tk y) (hV : ∀ y ∈ R, y.2 ≤ V) (V0 : 0 ≤ V) (V1 : V ≤ 1000000000000) (hl : R.length ≤ 70000) : 0 ≤ mn w g t R ∧ mn w g t R ≤ V ∧ mov w g t R = false := by
  have hM : M63 = 9223372036854775807 := rfl
  have h1 := vs_le (g := g) (W := inW (NB w g) (t.tdiv g)) hV
  have h2 := ns_le g (inW (NB w g) (t.tdiv g)) R
  have h3 : 0 ≤ vs g (inW (NB w g) (t.tdiv g)) R := wsum_nn g _ (fun y hy => (hR y hy).1.2)
  have h4 : 0 ≤ ns g (inW (NB w g) (t.tdiv g)) R := wsum_nn g _ (fun _ _ => by omega)
  have h5 : V * ns g (inW (NB w g) (t.tdiv g)) R ≤ 1000000000000 * 70000 := Int.mul_le_mul V1 (by omega) h4 (by omega)
  unfold mn mov
  have h6 : vs g (inW (NB w g) (t.tdiv g)) R ≤ M63 := by omega
  have e1 : min M63 (vs g (inW (NB w g) (t.tdiv g)) R) = vs g (inW (NB w g) (t.tdiv g)) R := by omega
  have e2 : over (vs g (inW (NB w g) (t.tdiv g)) R) = false := by unfold over; simp; omega
  rw [e1, e2]
  unfold meanOf
  split
  · exact ⟨by omega, V0, rfl⟩
  · rename_i hc
    refine ⟨Int.tdiv_nonneg h3 h4, ?_, rfl⟩
    rw [Int.tdiv_eq_ediv_of_nonneg h3]
    have : vs g (inW (NB w g) (t.tdiv g)) R ≤ V * ns g (inW (NB w g) (t.tdiv g)) R := h1
    exact Int.ediv_le_of_le_mul (by omega) this

/-- both windows, for settings -/
structure MRel (c : Cf) (Rs Rq : List (Int × Int)) (R0 R1 : Rg) : Prop where
  r0 : PRel c.grain (NB c.stable c.grain) R0.nw Rs R0.lo R0.len R0.l R0.f
  w0 : R0.w = c.stable
  g0 : R0.g = c.grain
  n0 : R0.n = NB c.stable c.grain
  b0 : -1 ≤ R0.nw ∧ R0.nw ≤ 1099511627776
  r1 : PRel c.grain (NB c.panic c.grain) R1.nw Rq R1.lo R1.len R1.l R1.f
  w1 : R1.w = c.panic
  g1 : R1.g = c.grain
  n1 : R1.n = NB c.panic c.grain
  b1 : -1 ≤ R1.nw ∧ R1.nw ≤ 1099511627776

theorem rokS {c : Cf} (hm : S.may c = true) : Rok c.stable c.grain := by
  have hc := (may_iff c).mp hm
  have h1 := hc.stable; have h2 := hc.panic; have h3 := hc.grain
  exact ⟨⟨by omega, by omega⟩, by omega⟩
theorem rokP {c : Cf} (hm : S.may c = true) : Rok c.panic c.grain := by
  have hc := (may_iff c).mp hm
  have h1 := hc.stable; have h2 := hc.panic; have h3 := hc.grain
  exact ⟨⟨by omega, by omega⟩, by omega⟩

theorem mput_ok {c mc : Cf} {mo : Bool} {Rs Rq : List (Int × Int)} {R0 R1 : Rg} (hm : S.may c = true) (h : MRel c Rs Rq R0 R1) {x : Int × Int} (hx : Tk x) (h0 : Rs.length ≤ 70000) (h1 : Rq.length ≤ 70000) :
    ∃ R0' R1', S.mput mc mo R0 R1 x.1 x.2 = some (0, mc, mo, R0', R1') ∧ MRel c (pR c.grain (NB c.stable c.grain) R0.nw x Rs) (pR c.grain (NB c.panic c.grain) R1.nw x Rq) R0' R1' ∧
      R0'.nw = pnw c.grain R0.nw x ∧ R1'.nw = pnw c.grain R1.nw x ∧ R0'.ov = R0.ov ∧ R1'.ov = R1.ov := by
  obtain ⟨lo0, len0, w0, g0, n0, nw0, ov0, l0, f0⟩ := R0
  obtain ⟨lo1, len1, w1, g1, n1, nw1, ov1, l1, f1⟩ := R1
  obtain ⟨r0, hw0, hg0, hn0, b0, r1, hw1, hg1, hn1, b1⟩ := h
  simp only at r0 hw0 hg0 hn0 b0 r1 hw1 hg1 hn1 b1 ⊢
  subst hw0; subst hg0; subst hn0; subst hw1; subst hn1
  have hk := (rokS hm).1.1
  obtain ⟨lo', len', l', f', e, hP⟩ := rp_ok r0 (rokS hm) b0.1 b0.2 hx h0 ov0
  obtain ⟨lo2, len2, l2, f2, e2, hP2⟩ := rp_ok r1 (rokP hm) b1.1 b1.2 hx h1 ov1
  have p0 := pnw_b (nw := nw0) hk hx.1 b0.1 b0.2
  have p1 := pnw_b (nw := nw1) hk hx.1 b1.1 b1.2
  unfold S.mput
  rw [hg1]
  simp only [e, e2, optK]
  exact ⟨_, _, rfl, ⟨hP, rfl, rfl, rfl, ⟨p0.1, p0.2.1⟩, hP2, rfl, rfl, rfl, ⟨p1.1, p1.2.1⟩⟩, rfl, rfl, rfl, rfl⟩

theorem mmeans_ok {c mc : Cf} {mo : Bool} {Rs Rq : List (Int × Int)} {R0 R1 : Rg} (hm : S.may c = true) (h : MRel c Rs Rq R0 R1) {t : Int} (t0 : 0 ≤ t) (t1 : t ≤ 1099511627776) (h0 : Rs.length ≤ 70000) (h1 : Rq.length ≤ 70000) :
    ∃ R0' R1', S.mmeans mc mo R0 R1 t = some (mn c.stable c.grain t Rs, mn c.panic c.grain t Rq, mc, mo, R0', R1') ∧ MRel c Rs Rq R0' R1' ∧
      R0'.nw = R0.nw ∧ R1'.nw = R1.nw ∧ R0'.ov = (R0.ov || mov c.stable c.grain t Rs) ∧ R1'.ov = (R1.ov || mov c.panic c.grain t Rq) := by
  obtain ⟨lo0, len0, w0, g0, n0, nw0, ov0, l0, f0⟩ := R0
  obtain ⟨lo1, len1, w1, g1, n1, nw1, ov1, l1, f1⟩ := R1
  obtain ⟨r0, hw0, hg0, hn0, b0, r1, hw1, hg1, hn1, b1⟩ := h
  simp only at r0 hw0 hg0 hn0 b0 r1 hw1 hg1 hn1 b1 ⊢
  subst hw0; subst hg0; subst hn0; subst hw1; subst hn1
  have hk := (rokS hm).1.1
  have e := rm_ok r0 hk h0 c.stable ov0 (t := t) t0 (by omega)
  have e2 := rm_ok r1 hk h1 c.panic ov1 (t := t) t0 (by omega)
  unfold S.mmeans
  rw [hg1]
  simp only [e, e2, optK]
  exact ⟨_, _, rfl, ⟨r0, rfl, rfl, rfl, b0, r1, rfl, rfl, rfl, b1⟩, rfl, rfl, rfl, rfl⟩

/-- the decider's state, for settings -/
structure DRel (c : Cf) (la : Int) (mc : Cf) (R0 R1 : Rg) (H : Dl) (Rs Rq D : List (Int × Int)) : Prop where
  m : MRel c Rs Rq R0 R1
  mc : mc = c
  hold : Holds H.l H.lo H.len D
  times : Times D
  la0 : 0 ≤ la ∧ la ≤ 1099511627776
  hla : H.la ≤ la
  hsp : H.sp = c.delay

/-- what is wanted, within bounds -/
noncomputable def bnds (c : Cf) (w : Int) : Int := if c.min > (if S.cmost c < w then S.cmost c else w) then c.min else (if S.cmost c < w then S.cmost c else w)
/-- what is let through, in panic or not -/
noncomputable def letN (c : Cf) (si s q r : Int) : Int := if 0 ≤ si then (if Li c (Wn c q) r > Li c (Wn c s) r then Li c (Wn c q) r else Li c (Wn c s) r) else Li c (Wn c s) r

theorem letN_range (c : Cf) (hm : S.may c = true) (si s q r : Int) (r0 : 0 ≤ r) (r1 : r ≤ 10000) : 0 ≤ letN c si s q r ∧ letN c si s q r ≤ 1000000 := by
  have h1 := Wn_range c s
  have h2 := Wn_range c q
  have h3 := Li_range c hm (Wn c s) r h1.1 h1.2 r0 r1
  have h4 := Li_range c hm (Wn c q) r h2.1 h2.2 r0 r1
  unfold letN; split
  · split <;> omega
  · exact h3

theorem dcput_ok {c mc : Cf} {si ms la : Int} {mo : Bool} {Rs Rq D : List (Int × Int)} {R0 R1 : Rg} {H : Dl} (hm : S.may c = true) (h : DRel c la mc R0 R1 H Rs Rq D) {x : Int × Int} (hx : Tk x) (h0 : Rs.length ≤ 70000) (h1 : Rq.length ≤ 70000) :
    ∃ R0' R1', S.dcput c si ms la mc mo R0 R1 H x.1 x.2 = some (0, c, si, ms, la, mc, mo, R0', R1', H) ∧ DRel c la mc R0' R1' H (pR c.grain (NB c.stable c.grain) R0.nw x Rs) (pR c.grain (NB c.panic c.grain) R1.nw x Rq) D ∧
      R0'.nw = pnw c.grain R0.nw x ∧ R1'.nw = pnw c.grain R1.nw x ∧ R0'.ov = R0.ov ∧ R1'.ov = R1.ov := by
  obtain ⟨R0', R1', e, hM, q⟩ := mput_ok (mc := mc) (mo := mo) hm h.m hx h0 h1
  unfold S.dcput
  simp only [e, optK]
  exact ⟨R0', R1', rfl, ⟨hM, h.mc, h.hold, h.times, h.la0, h.hla, h.hsp⟩, q⟩

theorem dcnext_ok {c mc : Cf} {si ms la : Int} {mo : Bool} {Rs Rq D : List (Int × Int)} {R0 R1 : Rg} {H : Dl} (hm : S.may c = true) (h : DRel c la mc R0 R1 H Rs Rq D) {t r : Int} (t0 : la ≤ t) (t1 : t ≤ 1099511627776) (r0 : 0 ≤ r) (r1 : r ≤ 100)
    (h0 : Rs.length ≤ 70000) (h1 : Rq.length ≤ 70000) (hd : D.length ≤ 80000) (v0 : ∀ y ∈ Rs, y.2 ≤ 1000000000000) (v1 : ∀ y ∈ Rq, y.2 ≤ 1000000000000)
    {s q : Int} (hs : s = mn c.stable c.grain t Rs) (hq : q = mn c.panic c.grain t Rq) {p : Int × Int} (hp : p = S.next c si ms t (S.wover c (Wn c q) r))
    {D' : List (Int × Int)} (hD : D' = D.filter (keepT t) ++ [(t, letN c p.1 s q r)]) {k : Int × Int × Int} (hk : k = S.keep p.1 p.2 (mostFrom c.delay t 0 D')) :
    ∃ R0' R1' H', S.dcnext c si ms la mc mo R0 R1 H t r = some (t, s, q, bnds c k.2.2, decide (0 ≤ k.1), S.excess c r q, 0, c, k.1, k.2.1, t, mc, mo, R0', R1', H') ∧ DRel c t mc R0' R1' H' Rs Rq D' ∧
      R0'.nw = R0.nw ∧ R1'.nw = R1.nw ∧ R0'.ov = R0.ov ∧ R1'.ov = R1.ov := by
  obtain ⟨R0', R1', e, hM, q1, q2, q3, q4⟩ := mmeans_ok (mc := mc) (mo := mo) hm h.m (t := t) (by have := h.la0; omega) t1 h0 h1
  have hla0 := h.la0
  have ms0 := mn_range (w := c.stable) (g := c.grain) (t := t) h.m.r0.tk v0 (by omega) (by omega) h0
  have mq0 := mn_range (w := c.panic) (g := c.grain) (t := t) h.m.r1.tk v1 (by omega) (by omega) h1
  rw [← hs, ← hq] at e
  rw [← hs] at ms0
  rw [← hq] at mq0
  rw [ms0.2.2, Bool.or_false] at q3
  rw [mq0.2.2, Bool.or_false] at q4
  have p1 : ¬ t < la := by omega
  have p2 : ¬ 1099511627776 < t := by omega
  have p3 : ¬ r < 0 := by omega
  have p4 : ¬ 100 < r := by omega
  have hln := letN_range c hm p.1 s q r r0 (by omega)
  have hlen := h.hold.len
  obtain ⟨q', hq', ed⟩ := dput_yes h.hold h.times (sp := H.sp) (la := H.la) (t := t) (w := letN c p.1 s q r) (by have := h.hla; omega) (by omega) t1 hln.1 hln.2 (by omega)
  have hqD : q' = D' := by rw [hq', hD]
  rw [hqD] at ed
  have hT : Times D' := by
    intro x hx
    rw [hD] at hx
    rcases List.mem_append.mp hx with hx | hx
    · exact h.times x (List.mem_filter.mp hx).1
    · simp at hx; subst hx; exact ⟨by simp only; omega, by simp only; omega⟩
  have hW : Holds (D'.map some) 0 D'.length D' := Holds.whole D'
  have hdl : D'.length < 90000 := by
    have := List.length_filter_le (keepT t) D
    rw [hD, List.length_append, List.length_singleton]; omega
  have em := dmost_eq hW hT (sp := H.sp) (la := t) (t := t) (by omega) (by omega) hdl
  rw [h.hsp] at em ed
  unfold S.dcnext
  simp only [p1, p2, p3, p4, decide_false, cond_false, e, optK, wof_eq c hm s ms0.1 (by omega), wof_eq c hm q mq0.1 (by omega), limit_eq c hm, ← hp, is_eq]
  rw [h.hsp]
  by_cases c0 : 0 ≤ p.1
  · have e1 : letN c p.1 s q r = (if Li c (Wn c q) r > Li c (Wn c s) r then Li c (Wn c q) r else Li c (Wn c s) r) := by unfold letN; rw [if_pos c0]
    rw [e1] at ed
    simp only [c0, decide_true, cond_true, ed, em, optK, ← hk]
    exact ⟨R0', R1', _, rfl, ⟨hM, h.mc, hW, hT, ⟨by omega, t1⟩, by simp, rfl⟩, q1, q2, q3, q4⟩
  · have e1 : letN c p.1 s q r = Li c (Wn c s) r := by unfold letN; rw [if_neg c0]
    rw [e1] at ed
    simp only [c0, decide_false, cond_false, ed, em, optK, ← hk]
    exact ⟨R0', R1', _, rfl, ⟨hM, h.mc, hW, hT, ⟨by omega, t1⟩, by simp, rfl⟩, q1, q2, q3, q4⟩

/-- a new one -/
def rg0 (w g : Int) : Rg := ⟨0, 0, w, g, NB w g, -1, false, [], []⟩
theorem mnew_yes {c : Cf} (hm : S.may c = true) : S.mnew_p c = some (.inr (c, rg0 c.stable c.grain, rg0 c.panic c.grain)) := by
  unfold S.mnew_p S.mnew
  simp only [cf_etaW, hm, Bool.not_true, cond_false, new_yes (rokS hm), new_yes (rokP hm), optK, Sum.elim_inr, Option.bind_some]
  rfl
theorem mrel0 (c : Cf) : MRel c [] [] (rg0 c.stable c.grain) (rg0 c.panic c.grain) :=
  ⟨PRel.nil .., rfl, rfl, rfl, ⟨by simp [rg0], by simp [rg0]⟩, PRel.nil .., rfl, rfl, rfl, ⟨by simp [rg0], by simp [rg0]⟩⟩
theorem dcnew_yes {c : Cf} (hm : S.may c = true) : S.dcnew_p c = some (.inr (c, c, rg0 c.stable c.grain, rg0 c.panic c.grain, ⟨0, 0, c.delay, 0, []⟩)) := by
  have hd := ((may_iff c).mp hm).delay
  have p1 : ¬ c.delay < 0 := by omega
  have p2 : ¬ 600 < c.delay := by omega
  unfold S.dcnew_p S.dcnew
  simp only [cf_etaW, hm, Bool.not_true, cond_false, mnew_yes hm, optK, Sum.elim_inr, S.dnew, p1, p2, decide_false, Option.bind_some]
theorem drel0 (c : Cf) : DRel c 0 c (rg0 c.stable c.grain) (rg0 c.panic c.grain) ⟨0, 0, c.delay, 0, []⟩ [] [] [] :=
  ⟨mrel0 c, rfl, ⟨rfl, by simp⟩, fun _ h => (by cases h), ⟨by omega, by omega⟩, by simp, rfl⟩
end Go.Proofs.YtdgipcjigbagfaaGreat.AB
