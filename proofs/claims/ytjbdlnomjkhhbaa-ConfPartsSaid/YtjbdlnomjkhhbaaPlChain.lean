/- What is wrong with settings: a chain. -/
import Derived.Test.YtjbdlnomjkhhbaaPlConf
namespace Go.Proofs.Ytjbdlnomjkhhbaa.AB
set_option linter.unusedVariables false
set_option linter.unusedSimpArgs false

def chainW (t0 t1 t2 t3 t4 t5 t6 t7 t8 t9 t10 t11 t12 t13 t14 t15 t16 t17 t18 t19 : Bool) : ByteArray :=
  bif !t0 then bs [116, 97, 114, 103, 101, 116] else
  bif !t1 then bs [117, 116, 105, 108] else
  bif !t2 then bs [115, 116, 97, 98, 108, 101] else
  bif !t3 then bs [112, 97, 110, 105, 99] else
  bif !t4 then bs [103, 114, 97, 105, 110] else
  bif !t5 then bs [116, 104, 114, 101, 115, 104, 111, 108, 100] else
  bif !t6 then bs [117, 112] else
  bif !t7 then bs [100, 111, 119, 110] else
  bif !t8 then bs [109, 105, 110] else
  bif !t9 then bs [109, 97, 120] else
  bif !t10 then bs [105, 110, 105, 116, 105, 97, 108] else
  bif !t11 then bs [103, 114, 97, 99, 101] else
  bif !t12 then bs [100, 101, 108, 97, 121] else
  bif !t13 then bs [98, 117, 114, 115, 116] else
  bif !t14 then bs [108, 105, 109, 105, 116] else
  bif !t15 then bs [113, 117, 101, 117, 101] else
  bif !t16 then bs [116, 105, 109, 101, 111, 117, 116] else
  bif !t17 then bs [114, 101, 97, 100, 121] else
  bif !t18 then bs [115, 117, 98, 115, 101, 116] else
  bif !t19 then bs [115, 97, 109, 112, 108, 101] else
  bs []

theorem wrong_chain (c : Cf) : S.wrong c = chainW (S.within c.target 10 1000000) (S.within c.util 100 1000) (S.within c.stable 6 600) (S.within c.panic 1 c.stable) (S.within c.grain 1 c.panic) (S.within c.threshold 1100 10000) (S.within c.up 1001 1000000) (S.within c.down 1001 1000000) (S.within c.min 0 100) ((decide (c.max = 0) || S.within c.max (if 1 > c.min then 1 else c.min) 100)) (S.within c.initial 0 (if c.max = 0 then 100 else c.max)) (S.within c.grace 0 600) (S.within c.delay 0 600) ((decide (c.burst = -1000) || S.within c.burst 0 100000000)) (S.within c.limit 1 1000) (S.within c.queue 0 200) (S.within c.timeout 1 10000) (S.within c.ready 0 100) (S.within c.subset 0 100) (S.within c.sample 0 100) := by
  unfold S.wrong chainW
  simp only [within1_within]
  by_cases h0 : c.max = 0 <;> by_cases h2 : c.burst = -1000 <;> simp only [h0, h2, decide_true, decide_false, Bool.not_true, Bool.not_false, cond_true, cond_false, Bool.true_or, Bool.false_or, if_true, if_false]
theorem chain_0 {t0 t1 t2 t3 t4 t5 t6 t7 t8 t9 t10 t11 t12 t13 t14 t15 t16 t17 t18 t19 : Bool}  (g : t0 = false) : chainW t0 t1 t2 t3 t4 t5 t6 t7 t8 t9 t10 t11 t12 t13 t14 t15 t16 t17 t18 t19 = bs [116, 97, 114, 103, 101, 116] := by
  subst g; rfl
theorem chain_1 {t0 t1 t2 t3 t4 t5 t6 t7 t8 t9 t10 t11 t12 t13 t14 t15 t16 t17 t18 t19 : Bool} (h0 : t0 = true) (g : t1 = false) : chainW t0 t1 t2 t3 t4 t5 t6 t7 t8 t9 t10 t11 t12 t13 t14 t15 t16 t17 t18 t19 = bs [117, 116, 105, 108] := by
  subst h0 g; rfl
theorem chain_2 {t0 t1 t2 t3 t4 t5 t6 t7 t8 t9 t10 t11 t12 t13 t14 t15 t16 t17 t18 t19 : Bool} (h0 : t0 = true) (h1 : t1 = true) (g : t2 = false) : chainW t0 t1 t2 t3 t4 t5 t6 t7 t8 t9 t10 t11 t12 t13 t14 t15 t16 t17 t18 t19 = bs [115, 116, 97, 98, 108, 101] := by
  subst h0 h1 g; rfl
theorem chain_3 {t0 t1 t2 t3 t4 t5 t6 t7 t8 t9 t10 t11 t12 t13 t14 t15 t16 t17 t18 t19 : Bool} (h0 : t0 = true) (h1 : t1 = true) (h2 : t2 = true) (g : t3 = false) : chainW t0 t1 t2 t3 t4 t5 t6 t7 t8 t9 t10 t11 t12 t13 t14 t15 t16 t17 t18 t19 = bs [112, 97, 110, 105, 99] := by
  subst h0 h1 h2 g; rfl
theorem chain_4 {t0 t1 t2 t3 t4 t5 t6 t7 t8 t9 t10 t11 t12 t13 t14 t15 t16 t17 t18 t19 : Bool} (h0 : t0 = true) (h1 : t1 = true) (h2 : t2 = true) (h3 : t3 = true) (g : t4 = false) : chainW t0 t1 t2 t3 t4 t5 t6 t7 t8 t9 t10 t11 t12 t13 t14 t15 t16 t17 t18 t19 = bs [103, 114, 97, 105, 110] := by
  subst h0 h1 h2 h3 g; rfl
theorem chain_5 {t0 t1 t2 t3 t4 t5 t6 t7 t8 t9 t10 t11 t12 t13 t14 t15 t16 t17 t18 t19 : Bool} (h0 : t0 = true) (h1 : t1 = true) (h2 : t2 = true) (h3 : t3 = true) (h4 : t4 = true) (g : t5 = false) : chainW t0 t1 t2 t3 t4 t5 t6 t7 t8 t9 t10 t11 t12 t13 t14 t15 t16 t17 t18 t19 = bs [116, 104, 114, 101, 115, 104, 111, 108, 100] := by
  subst h0 h1 h2 h3 h4 g; rfl
theorem chain_6 {t0 t1 t2 t3 t4 t5 t6 t7 t8 t9 t10 t11 t12 t13 t14 t15 t16 t17 t18 t19 : Bool} (h0 : t0 = true) (h1 : t1 = true) (h2 : t2 = true) (h3 : t3 = true) (h4 : t4 = true) (h5 : t5 = true) (g : t6 = false) : chainW t0 t1 t2 t3 t4 t5 t6 t7 t8 t9 t10 t11 t12 t13 t14 t15 t16 t17 t18 t19 = bs [117, 112] := by
  subst h0 h1 h2 h3 h4 h5 g; rfl
theorem chain_7 {t0 t1 t2 t3 t4 t5 t6 t7 t8 t9 t10 t11 t12 t13 t14 t15 t16 t17 t18 t19 : Bool} (h0 : t0 = true) (h1 : t1 = true) (h2 : t2 = true) (h3 : t3 = true) (h4 : t4 = true) (h5 : t5 = true) (h6 : t6 = true) (g : t7 = false) : chainW t0 t1 t2 t3 t4 t5 t6 t7 t8 t9 t10 t11 t12 t13 t14 t15 t16 t17 t18 t19 = bs [100, 111, 119, 110] := by
  subst h0 h1 h2 h3 h4 h5 h6 g; rfl
theorem chain_8 {t0 t1 t2 t3 t4 t5 t6 t7 t8 t9 t10 t11 t12 t13 t14 t15 t16 t17 t18 t19 : Bool} (h0 : t0 = true) (h1 : t1 = true) (h2 : t2 = true) (h3 : t3 = true) (h4 : t4 = true) (h5 : t5 = true) (h6 : t6 = true) (h7 : t7 = true) (g : t8 = false) : chainW t0 t1 t2 t3 t4 t5 t6 t7 t8 t9 t10 t11 t12 t13 t14 t15 t16 t17 t18 t19 = bs [109, 105, 110] := by
  subst h0 h1 h2 h3 h4 h5 h6 h7 g; rfl
theorem chain_9 {t0 t1 t2 t3 t4 t5 t6 t7 t8 t9 t10 t11 t12 t13 t14 t15 t16 t17 t18 t19 : Bool} (h0 : t0 = true) (h1 : t1 = true) (h2 : t2 = true) (h3 : t3 = true) (h4 : t4 = true) (h5 : t5 = true) (h6 : t6 = true) (h7 : t7 = true) (h8 : t8 = true) (g : t9 = false) : chainW t0 t1 t2 t3 t4 t5 t6 t7 t8 t9 t10 t11 t12 t13 t14 t15 t16 t17 t18 t19 = bs [109, 97, 120] := by
  subst h0 h1 h2 h3 h4 h5 h6 h7 h8 g; rfl
theorem chain_10 {t0 t1 t2 t3 t4 t5 t6 t7 t8 t9 t10 t11 t12 t13 t14 t15 t16 t17 t18 t19 : Bool} (h0 : t0 = true) (h1 : t1 = true) (h2 : t2 = true) (h3 : t3 = true) (h4 : t4 = true) (h5 : t5 = true) (h6 : t6 = true) (h7 : t7 = true) (h8 : t8 = true) (h9 : t9 = true) (g : t10 = false) : chainW t0 t1 t2 t3 t4 t5 t6 t7 t8 t9 t10 t11 t12 t13 t14 t15 t16 t17 t18 t19 = bs [105, 110, 105, 116, 105, 97, 108] := by
  subst h0 h1 h2 h3 h4 h5 h6 h7 h8 h9 g; rfl
theorem chain_11 {t0 t1 t2 t3 t4 t5 t6 t7 t8 t9 t10 t11 t12 t13 t14 t15 t16 t17 t18 t19 : Bool} (h0 : t0 = true) (h1 : t1 = true) (h2 : t2 = true) (h3 : t3 = true) (h4 : t4 = true) (h5 : t5 = true) (h6 : t6 = true) (h7 : t7 = true) (h8 : t8 = true) (h9 : t9 = true) (h10 : t10 = true) (g : t11 = false) : chainW t0 t1 t2 t3 t4 t5 t6 t7 t8 t9 t10 t11 t12 t13 t14 t15 t16 t17 t18 t19 = bs [103, 114, 97, 99, 101] := by
  subst h0 h1 h2 h3 h4 h5 h6 h7 h8 h9 h10 g; rfl
theorem chain_12 {t0 t1 t2 t3 t4 t5 t6 t7 t8 t9 t10 t11 t12 t13 t14 t15 t16 t17 t18 t19 : Bool} (h0 : t0 = true) (h1 : t1 = true) (h2 : t2 = true) (h3 : t3 = true) (h4 : t4 = true) (h5 : t5 = true) (h6 : t6 = true) (h7 : t7 = true) (h8 : t8 = true) (h9 : t9 = true) (h10 : t10 = true) (h11 : t11 = true) (g : t12 = false) : chainW t0 t1 t2 t3 t4 t5 t6 t7 t8 t9 t10 t11 t12 t13 t14 t15 t16 t17 t18 t19 = bs [100, 101, 108, 97, 121] := by
  subst h0 h1 h2 h3 h4 h5 h6 h7 h8 h9 h10 h11 g; rfl
theorem chain_13 {t0 t1 t2 t3 t4 t5 t6 t7 t8 t9 t10 t11 t12 t13 t14 t15 t16 t17 t18 t19 : Bool} (h0 : t0 = true) (h1 : t1 = true) (h2 : t2 = true) (h3 : t3 = true) (h4 : t4 = true) (h5 : t5 = true) (h6 : t6 = true) (h7 : t7 = true) (h8 : t8 = true) (h9 : t9 = true) (h10 : t10 = true) (h11 : t11 = true) (h12 : t12 = true) (g : t13 = false) : chainW t0 t1 t2 t3 t4 t5 t6 t7 t8 t9 t10 t11 t12 t13 t14 t15 t16 t17 t18 t19 = bs [98, 117, 114, 115, 116] := by
  subst h0 h1 h2 h3 h4 h5 h6 h7 h8 h9 h10 h11 h12 g; rfl
theorem chain_14 {t0 t1 t2 t3 t4 t5 t6 t7 t8 t9 t10 t11 t12 t13 t14 t15 t16 t17 t18 t19 : Bool} (h0 : t0 = true) (h1 : t1 = true) (h2 : t2 = true) (h3 : t3 = true) (h4 : t4 = true) (h5 : t5 = true) (h6 : t6 = true) (h7 : t7 = true) (h8 : t8 = true) (h9 : t9 = true) (h10 : t10 = true) (h11 : t11 = true) (h12 : t12 = true) (h13 : t13 = true) (g : t14 = false) : chainW t0 t1 t2 t3 t4 t5 t6 t7 t8 t9 t10 t11 t12 t13 t14 t15 t16 t17 t18 t19 = bs [108, 105, 109, 105, 116] := by
  subst h0 h1 h2 h3 h4 h5 h6 h7 h8 h9 h10 h11 h12 h13 g; rfl
theorem chain_15 {t0 t1 t2 t3 t4 t5 t6 t7 t8 t9 t10 t11 t12 t13 t14 t15 t16 t17 t18 t19 : Bool} (h0 : t0 = true) (h1 : t1 = true) (h2 : t2 = true) (h3 : t3 = true) (h4 : t4 = true) (h5 : t5 = true) (h6 : t6 = true) (h7 : t7 = true) (h8 : t8 = true) (h9 : t9 = true) (h10 : t10 = true) (h11 : t11 = true) (h12 : t12 = true) (h13 : t13 = true) (h14 : t14 = true) (g : t15 = false) : chainW t0 t1 t2 t3 t4 t5 t6 t7 t8 t9 t10 t11 t12 t13 t14 t15 t16 t17 t18 t19 = bs [113, 117, 101, 117, 101] := by
  subst h0 h1 h2 h3 h4 h5 h6 h7 h8 h9 h10 h11 h12 h13 h14 g; rfl
theorem chain_16 {t0 t1 t2 t3 t4 t5 t6 t7 t8 t9 t10 t11 t12 t13 t14 t15 t16 t17 t18 t19 : Bool} (h0 : t0 = true) (h1 : t1 = true) (h2 : t2 = true) (h3 : t3 = true) (h4 : t4 = true) (h5 : t5 = true) (h6 : t6 = true) (h7 : t7 = true) (h8 : t8 = true) (h9 : t9 = true) (h10 : t10 = true) (h11 : t11 = true) (h12 : t12 = true) (h13 : t13 = true) (h14 : t14 = true) (h15 : t15 = true) (g : t16 = false) : chainW t0 t1 t2 t3 t4 t5 t6 t7 t8 t9 t10 t11 t12 t13 t14 t15 t16 t17 t18 t19 = bs [116, 105, 109, 101, 111, 117, 116] := by
  subst h0 h1 h2 h3 h4 h5 h6 h7 h8 h9 h10 h11 h12 h13 h14 h15 g; rfl
theorem chain_17 {t0 t1 t2 t3 t4 t5 t6 t7 t8 t9 t10 t11 t12 t13 t14 t15 t16 t17 t18 t19 : Bool} (h0 : t0 = true) (h1 : t1 = true) (h2 : t2 = true) (h3 : t3 = true) (h4 : t4 = true) (h5 : t5 = true) (h6 : t6 = true) (h7 : t7 = true) (h8 : t8 = true) (h9 : t9 = true) (h10 : t10 = true) (h11 : t11 = true) (h12 : t12 = true) (h13 : t13 = true) (h14 : t14 = true) (h15 : t15 = true) (h16 : t16 = true) (g : t17 = false) : chainW t0 t1 t2 t3 t4 t5 t6 t7 t8 t9 t10 t11 t12 t13 t14 t15 t16 t17 t18 t19 = bs [114, 101, 97, 100, 121] := by
  subst h0 h1 h2 h3 h4 h5 h6 h7 h8 h9 h10 h11 h12 h13 h14 h15 h16 g; rfl
theorem chain_18 {t0 t1 t2 t3 t4 t5 t6 t7 t8 t9 t10 t11 t12 t13 t14 t15 t16 t17 t18 t19 : Bool} (h0 : t0 = true) (h1 : t1 = true) (h2 : t2 = true) (h3 : t3 = true) (h4 : t4 = true) (h5 : t5 = true) (h6 : t6 = true) (h7 : t7 = true) (h8 : t8 = true) (h9 : t9 = true) (h10 : t10 = true) (h11 : t11 = true) (h12 : t12 = true) (h13 : t13 = true) (h14 : t14 = true) (h15 : t15 = true) (h16 : t16 = true) (h17 : t17 = true) (g : t18 = false) : chainW t0 t1 t2 t3 t4 t5 t6 t7 t8 t9 t10 t11 t12 t13 t14 t15 t16 t17 t18 t19 = bs [115, 117, 98, 115, 101, 116] := by
  subst h0 h1 h2 h3 h4 h5 h6 h7 h8 h9 h10 h11 h12 h13 h14 h15 h16 h17 g; rfl
theorem chain_19 {t0 t1 t2 t3 t4 t5 t6 t7 t8 t9 t10 t11 t12 t13 t14 t15 t16 t17 t18 t19 : Bool} (h0 : t0 = true) (h1 : t1 = true) (h2 : t2 = true) (h3 : t3 = true) (h4 : t4 = true) (h5 : t5 = true) (h6 : t6 = true) (h7 : t7 = true) (h8 : t8 = true) (h9 : t9 = true) (h10 : t10 = true) (h11 : t11 = true) (h12 : t12 = true) (h13 : t13 = true) (h14 : t14 = true) (h15 : t15 = true) (h16 : t16 = true) (h17 : t17 = true) (h18 : t18 = true) (g : t19 = false) : chainW t0 t1 t2 t3 t4 t5 t6 t7 t8 t9 t10 t11 t12 t13 t14 t15 t16 t17 t18 t19 = bs [115, 97, 109, 112, 108, 101] := by
  subst h0 h1 h2 h3 h4 h5 h6 h7 h8 h9 h10 h11 h12 h13 h14 h15 h16 h17 h18 g; rfl
theorem chain_ok {t0 t1 t2 t3 t4 t5 t6 t7 t8 t9 t10 t11 t12 t13 t14 t15 t16 t17 t18 t19 : Bool} (h0 : t0 = true) (h1 : t1 = true) (h2 : t2 = true) (h3 : t3 = true) (h4 : t4 = true) (h5 : t5 = true) (h6 : t6 = true) (h7 : t7 = true) (h8 : t8 = true) (h9 : t9 = true) (h10 : t10 = true) (h11 : t11 = true) (h12 : t12 = true) (h13 : t13 = true) (h14 : t14 = true) (h15 : t15 = true) (h16 : t16 = true) (h17 : t17 = true) (h18 : t18 = true) (h19 : t19 = true) : chainW t0 t1 t2 t3 t4 t5 t6 t7 t8 t9 t10 t11 t12 t13 t14 t15 t16 t17 t18 t19 = bs [] := by
  subst h0 h1 h2 h3 h4 h5 h6 h7 h8 h9 h10 h11 h12 h13 h14 h15 h16 h17 h18 h19; rfl

theorem within_yes {n lo hi : Int} (h0 : lo ≤ n) (h1 : n ≤ hi) : S.within n lo hi = true := by rw [within_eq]; simp [h0, h1]
theorem within_no {n lo hi : Int} (h : n < lo ∨ hi < n) : S.within n lo hi = false := by rw [within_eq]; simp; omega
theorem may_wrong (c : Cf) : S.may c = isE (S.wrong c) := rfl
end Go.Proofs.Ytjbdlnomjkhhbaa.AB
