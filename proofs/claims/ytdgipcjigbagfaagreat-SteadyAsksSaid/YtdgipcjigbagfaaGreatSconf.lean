/- The functions of the settings, as plain functions. -/
import Derived.Test.YtdgipcjigbagfaaGreatSrmilli
namespace Go.Proofs.YtdgipcjigbagfaaGreat.AB
set_option linter.unusedVariables false

/-- settings -/
structure Cf where
  target : Int
  util : Int
  stable : Int
  panic : Int
  grain : Int
  threshold : Int
  up : Int
  down : Int
  min : Int
  max : Int
  initial : Int
  grace : Int
  delay : Int
  burst : Int
  limit : Int
  queue : Int
  timeout : Int
  ready : Int
  subset : Int
  sample : Int
def cfA (c : Cf) : List AVal := [.int .i64 c.target, .int .i64 c.util, .int .i64 c.stable, .int .i64 c.panic, .int .i64 c.grain, .int .i64 c.threshold, .int .i64 c.up, .int .i64 c.down, .int .i64 c.min, .int .i64 c.max, .int .i64 c.initial, .int .i64 c.grace, .int .i64 c.delay, .int .i64 c.burst, .int .i64 c.limit, .int .i64 c.queue, .int .i64 c.timeout, .int .i64 c.ready, .int .i64 c.subset, .int .i64 c.sample]

/-! conf.within -/
def F96 : FCfg := ⟨keepAt [(0, [0, 1, 2]), (1, [0, 1, 2, 7, 8]), (2, [0, 1, 2, 7, 16]), (3, [6]), (4, [1, 2, 9, 10]), (5, [6])], loopAt [], []⟩
noncomputable def S.within_L {R : Type} (n lo hi : Int) (k : AVal → List Blk → Option R) : Option R := fnEval tis F96 0 G25 Tryz.f96 [.iface 2 (.int .i64 n), .int .i64 lo, .int .i64 hi] [] k
noncomputable def S.within_gk {R : Type} (n lo hi : Int) (k : AVal → List Blk → Option R) : (Bool) → Option R := (fun v : Bool => k (.bool v) [])
theorem S.within_k {R : Type} (n lo hi : Int) (k : AVal → List Blk → Option R) : S.within_L n lo hi k =
  (bif decide (lo ≤ n) then
   (S.within_gk n lo hi k) (decide (n ≤ hi))
 else
   (S.within_gk n lo hi k) (false)) := by kernel_rfl
noncomputable def S.within (n lo hi : Int) : Bool :=
  bif decide (lo ≤ n) then
   (decide (n ≤ hi))
 else
   (false)
theorem S.within_v {R : Type} (n lo hi : Int) (k : AVal → List Blk → Option R) : S.within_L n lo hi k = (S.within_gk n lo hi k) (S.within n lo hi) :=
  (S.within_k n lo hi k).trans (bif_lift (f := (S.within_gk n lo hi k)) rfl rfl)
noncomputable def S.within1_L {R : Type} (n lo hi : Int) (k : AVal → List Blk → Option R) : Option R := fnEval tis F96 0 G25 Tryz.f96 [.iface 3 (.int .i64 n), .int .i64 lo, .int .i64 hi] [] k
noncomputable def S.within1_gk {R : Type} (n lo hi : Int) (k : AVal → List Blk → Option R) : (Bool) → Option R := (fun v : Bool => k (.bool v) [])
theorem S.within1_k {R : Type} (n lo hi : Int) (k : AVal → List Blk → Option R) : S.within1_L n lo hi k =
  (bif decide (lo ≤ n) then
   (S.within1_gk n lo hi k) (decide (n ≤ hi))
 else
   (S.within1_gk n lo hi k) (false)) := by kernel_rfl
noncomputable def S.within1 (n lo hi : Int) : Bool :=
  bif decide (lo ≤ n) then
   (decide (n ≤ hi))
 else
   (false)
theorem S.within1_v {R : Type} (n lo hi : Int) (k : AVal → List Blk → Option R) : S.within1_L n lo hi k = (S.within1_gk n lo hi k) (S.within1 n lo hi) :=
  (S.within1_k n lo hi k).trans (bif_lift (f := (S.within1_gk n lo hi k)) rfl rfl)
noncomputable def H96 : Hnd := fun R args σ k => match args, σ with
  | [.iface 2 (.int .i64 n), .int .i64 lo, .int .i64 hi], [] => k (.bool (S.within n lo hi)) []
  | [.iface 3 (.int .i64 n), .int .i64 lo, .int .i64 hi], [] => k (.bool (S.within1 n lo hi)) []
  | _, _ => none
theorem H96_ok : HndOk Tryz.prog 96 H96 := hnd_ok tis tisOk mixOk G25_ok F96 Tryz.func96 rfl (by
  intro R args σ k r h
  unfold H96 at h
  split at h
  · rename_i n lo hi; exact ⟨0, (S.within_v n lo hi _).trans h⟩
  · rename_i n lo hi; exact ⟨0, (S.within1_v n lo hi _).trans h⟩
  · cases h)
noncomputable def G96 : Env := Env.add 96 H96 G25
theorem G96_ok : EnvOk Tryz.prog G96 := envAdd_ok H96_ok G25_ok

/-! conf.Wrong -/
def F66 : FCfg := ⟨keepAt [(0, [1]), (1, [1, 3]), (2, [1, 3, 8]), (3, [1, 3]), (4, [129, 130, 131]), (5, [129, 130, 131, 132]), (6, [5, 129, 130, 131]), (7, [5, 129, 130, 131, 137]), (8, [2]), (9, [129, 130, 131]), (10, [2])], loopAt [(5, [129, 130, 131], [])], []⟩
noncomputable def S.wrong_L {R : Type} (c : Cf) (k : AVal → List Blk → Option R) : Option R := fnEval tis F66 40 G96 Tryz.f66 [.agg (cfA c)] [] k
noncomputable def S.wrong_gk {R : Type} (c : Cf) (k : AVal → List Blk → Option R) : (ByteArray) → Option R := (fun v : ByteArray => k (.str v) [])
theorem S.wrong_k {R : Type} (c : Cf) (k : AVal → List Blk → Option R) : S.wrong_L c k =
  (bif !decide (c.max = 0) then
   bif decide (c.max = 0) then
   bif decide (c.burst = -1000) then
   bif !S.within c.target 10 1000000 then
   (S.wrong_gk c k) (bs [116, 97, 114, 103, 101, 116])
 else
   bif !S.within c.util 100 1000 then
   (S.wrong_gk c k) (bs [117, 116, 105, 108])
 else
   bif !S.within1 c.stable 6 600 then
   (S.wrong_gk c k) (bs [115, 116, 97, 98, 108, 101])
 else
   bif !S.within1 c.panic 1 c.stable then
   (S.wrong_gk c k) (bs [112, 97, 110, 105, 99])
 else
   bif !S.within1 c.grain 1 c.panic then
   (S.wrong_gk c k) (bs [103, 114, 97, 105, 110])
 else
   bif !S.within c.threshold 1100 10000 then
   (S.wrong_gk c k) (bs [116, 104, 114, 101, 115, 104, 111, 108, 100])
 else
   bif !S.within c.up 1001 1000000 then
   (S.wrong_gk c k) (bs [117, 112])
 else
   bif !S.within c.down 1001 1000000 then
   (S.wrong_gk c k) (bs [100, 111, 119, 110])
 else
   bif !S.within1 c.min 0 100 then
   (S.wrong_gk c k) (bs [109, 105, 110])
 else
   bif !S.within1 c.initial 0 c.max then
   (S.wrong_gk c k) (bs [105, 110, 105, 116, 105, 97, 108])
 else
   bif !S.within1 c.grace 0 600 then
   (S.wrong_gk c k) (bs [103, 114, 97, 99, 101])
 else
   bif !S.within1 c.delay 0 600 then
   (S.wrong_gk c k) (bs [100, 101, 108, 97, 121])
 else
   bif !S.within1 c.limit 1 1000 then
   (S.wrong_gk c k) (bs [108, 105, 109, 105, 116])
 else
   bif !S.within1 c.queue 0 200 then
   (S.wrong_gk c k) (bs [113, 117, 101, 117, 101])
 else
   bif !S.within1 c.timeout 1 10000 then
   (S.wrong_gk c k) (bs [116, 105, 109, 101, 111, 117, 116])
 else
   bif !S.within1 c.ready 0 100 then
   (S.wrong_gk c k) (bs [114, 101, 97, 100, 121])
 else
   bif !S.within1 c.subset 0 100 then
   (S.wrong_gk c k) (bs [115, 117, 98, 115, 101, 116])
 else
   bif !S.within1 c.sample 0 100 then
   (S.wrong_gk c k) (bs [115, 97, 109, 112, 108, 101])
 else
   (S.wrong_gk c k) (bs [])
 else
   bif !S.within c.target 10 1000000 then
   (S.wrong_gk c k) (bs [116, 97, 114, 103, 101, 116])
 else
   bif !S.within c.util 100 1000 then
   (S.wrong_gk c k) (bs [117, 116, 105, 108])
 else
   bif !S.within1 c.stable 6 600 then
   (S.wrong_gk c k) (bs [115, 116, 97, 98, 108, 101])
 else
   bif !S.within1 c.panic 1 c.stable then
   (S.wrong_gk c k) (bs [112, 97, 110, 105, 99])
 else
   bif !S.within1 c.grain 1 c.panic then
   (S.wrong_gk c k) (bs [103, 114, 97, 105, 110])
 else
   bif !S.within c.threshold 1100 10000 then
   (S.wrong_gk c k) (bs [116, 104, 114, 101, 115, 104, 111, 108, 100])
 else
   bif !S.within c.up 1001 1000000 then
   (S.wrong_gk c k) (bs [117, 112])
 else
   bif !S.within c.down 1001 1000000 then
   (S.wrong_gk c k) (bs [100, 111, 119, 110])
 else
   bif !S.within1 c.min 0 100 then
   (S.wrong_gk c k) (bs [109, 105, 110])
 else
   bif !S.within1 c.initial 0 c.max then
   (S.wrong_gk c k) (bs [105, 110, 105, 116, 105, 97, 108])
 else
   bif !S.within1 c.grace 0 600 then
   (S.wrong_gk c k) (bs [103, 114, 97, 99, 101])
 else
   bif !S.within1 c.delay 0 600 then
   (S.wrong_gk c k) (bs [100, 101, 108, 97, 121])
 else
   bif !S.within c.burst 0 100000000 then
   (S.wrong_gk c k) (bs [98, 117, 114, 115, 116])
 else
   bif !S.within1 c.limit 1 1000 then
   (S.wrong_gk c k) (bs [108, 105, 109, 105, 116])
 else
   bif !S.within1 c.queue 0 200 then
   (S.wrong_gk c k) (bs [113, 117, 101, 117, 101])
 else
   bif !S.within1 c.timeout 1 10000 then
   (S.wrong_gk c k) (bs [116, 105, 109, 101, 111, 117, 116])
 else
   bif !S.within1 c.ready 0 100 then
   (S.wrong_gk c k) (bs [114, 101, 97, 100, 121])
 else
   bif !S.within1 c.subset 0 100 then
   (S.wrong_gk c k) (bs [115, 117, 98, 115, 101, 116])
 else
   bif !S.within1 c.sample 0 100 then
   (S.wrong_gk c k) (bs [115, 97, 109, 112, 108, 101])
 else
   (S.wrong_gk c k) (bs [])
 else
   bif decide (c.burst = -1000) then
   bif !S.within c.target 10 1000000 then
   (S.wrong_gk c k) (bs [116, 97, 114, 103, 101, 116])
 else
   bif !S.within c.util 100 1000 then
   (S.wrong_gk c k) (bs [117, 116, 105, 108])
 else
   bif !S.within1 c.stable 6 600 then
   (S.wrong_gk c k) (bs [115, 116, 97, 98, 108, 101])
 else
   bif !S.within1 c.panic 1 c.stable then
   (S.wrong_gk c k) (bs [112, 97, 110, 105, 99])
 else
   bif !S.within1 c.grain 1 c.panic then
   (S.wrong_gk c k) (bs [103, 114, 97, 105, 110])
 else
   bif !S.within c.threshold 1100 10000 then
   (S.wrong_gk c k) (bs [116, 104, 114, 101, 115, 104, 111, 108, 100])
 else
   bif !S.within c.up 1001 1000000 then
   (S.wrong_gk c k) (bs [117, 112])
 else
   bif !S.within c.down 1001 1000000 then
   (S.wrong_gk c k) (bs [100, 111, 119, 110])
 else
   bif !S.within1 c.min 0 100 then
   (S.wrong_gk c k) (bs [109, 105, 110])
 else
   bif !S.within1 c.max (if 1 > c.min then 1 else c.min) 100 then
   (S.wrong_gk c k) (bs [109, 97, 120])
 else
   bif !S.within1 c.initial 0 c.max then
   (S.wrong_gk c k) (bs [105, 110, 105, 116, 105, 97, 108])
 else
   bif !S.within1 c.grace 0 600 then
   (S.wrong_gk c k) (bs [103, 114, 97, 99, 101])
 else
   bif !S.within1 c.delay 0 600 then
   (S.wrong_gk c k) (bs [100, 101, 108, 97, 121])
 else
   bif !S.within1 c.limit 1 1000 then
   (S.wrong_gk c k) (bs [108, 105, 109, 105, 116])
 else
   bif !S.within1 c.queue 0 200 then
   (S.wrong_gk c k) (bs [113, 117, 101, 117, 101])
 else
   bif !S.within1 c.timeout 1 10000 then
   (S.wrong_gk c k) (bs [116, 105, 109, 101, 111, 117, 116])
 else
   bif !S.within1 c.ready 0 100 then
   (S.wrong_gk c k) (bs [114, 101, 97, 100, 121])
 else
   bif !S.within1 c.subset 0 100 then
   (S.wrong_gk c k) (bs [115, 117, 98, 115, 101, 116])
 else
   bif !S.within1 c.sample 0 100 then
   (S.wrong_gk c k) (bs [115, 97, 109, 112, 108, 101])
 else
   (S.wrong_gk c k) (bs [])
 else
   bif !S.within c.target 10 1000000 then
   (S.wrong_gk c k) (bs [116, 97, 114, 103, 101, 116])
 else
   bif !S.within c.util 100 1000 then
   (S.wrong_gk c k) (bs [117, 116, 105, 108])
 else
   bif !S.within1 c.stable 6 600 then
   (S.wrong_gk c k) (bs [115, 116, 97, 98, 108, 101])
 else
   bif !S.within1 c.panic 1 c.stable then
   (S.wrong_gk c k) (bs [112, 97, 110, 105, 99])
 else
   bif !S.within1 c.grain 1 c.panic then
   (S.wrong_gk c k) (bs [103, 114, 97, 105, 110])
 else
   bif !S.within c.threshold 1100 10000 then
   (S.wrong_gk c k) (bs [116, 104, 114, 101, 115, 104, 111, 108, 100])
 else
   bif !S.within c.up 1001 1000000 then
   (S.wrong_gk c k) (bs [117, 112])
 else
   bif !S.within c.down 1001 1000000 then
   (S.wrong_gk c k) (bs [100, 111, 119, 110])
 else
   bif !S.within1 c.min 0 100 then
   (S.wrong_gk c k) (bs [109, 105, 110])
 else
   bif !S.within1 c.max (if 1 > c.min then 1 else c.min) 100 then
   (S.wrong_gk c k) (bs [109, 97, 120])
 else
   bif !S.within1 c.initial 0 c.max then
   (S.wrong_gk c k) (bs [105, 110, 105, 116, 105, 97, 108])
 else
   bif !S.within1 c.grace 0 600 then
   (S.wrong_gk c k) (bs [103, 114, 97, 99, 101])
 else
   bif !S.within1 c.delay 0 600 then
   (S.wrong_gk c k) (bs [100, 101, 108, 97, 121])
 else
   bif !S.within c.burst 0 100000000 then
   (S.wrong_gk c k) (bs [98, 117, 114, 115, 116])
 else
   bif !S.within1 c.limit 1 1000 then
   (S.wrong_gk c k) (bs [108, 105, 109, 105, 116])
 else
   bif !S.within1 c.queue 0 200 then
   (S.wrong_gk c k) (bs [113, 117, 101, 117, 101])
 else
   bif !S.within1 c.timeout 1 10000 then
   (S.wrong_gk c k) (bs [116, 105, 109, 101, 111, 117, 116])
 else
   bif !S.within1 c.ready 0 100 then
   (S.wrong_gk c k) (bs [114, 101, 97, 100, 121])
 else
   bif !S.within1 c.subset 0 100 then
   (S.wrong_gk c k) (bs [115, 117, 98, 115, 101, 116])
 else
   bif !S.within1 c.sample 0 100 then
   (S.wrong_gk c k) (bs [115, 97, 109, 112, 108, 101])
 else
   (S.wrong_gk c k) (bs [])
 else
   bif decide (c.max = 0) then
   bif decide (c.burst = -1000) then
   bif !S.within c.target 10 1000000 then
   (S.wrong_gk c k) (bs [116, 97, 114, 103, 101, 116])
 else
   bif !S.within c.util 100 1000 then
   (S.wrong_gk c k) (bs [117, 116, 105, 108])
 else
   bif !S.within1 c.stable 6 600 then
   (S.wrong_gk c k) (bs [115, 116, 97, 98, 108, 101])
 else
   bif !S.within1 c.panic 1 c.stable then
   (S.wrong_gk c k) (bs [112, 97, 110, 105, 99])
 else
   bif !S.within1 c.grain 1 c.panic then
   (S.wrong_gk c k) (bs [103, 114, 97, 105, 110])
 else
   bif !S.within c.threshold 1100 10000 then
   (S.wrong_gk c k) (bs [116, 104, 114, 101, 115, 104, 111, 108, 100])
 else
   bif !S.within c.up 1001 1000000 then
   (S.wrong_gk c k) (bs [117, 112])
 else
   bif !S.within c.down 1001 1000000 then
   (S.wrong_gk c k) (bs [100, 111, 119, 110])
 else
   bif !S.within1 c.min 0 100 then
   (S.wrong_gk c k) (bs [109, 105, 110])
 else
   bif !S.within1 c.initial 0 100 then
   (S.wrong_gk c k) (bs [105, 110, 105, 116, 105, 97, 108])
 else
   bif !S.within1 c.grace 0 600 then
   (S.wrong_gk c k) (bs [103, 114, 97, 99, 101])
 else
   bif !S.within1 c.delay 0 600 then
   (S.wrong_gk c k) (bs [100, 101, 108, 97, 121])
 else
   bif !S.within1 c.limit 1 1000 then
   (S.wrong_gk c k) (bs [108, 105, 109, 105, 116])
 else
   bif !S.within1 c.queue 0 200 then
   (S.wrong_gk c k) (bs [113, 117, 101, 117, 101])
 else
   bif !S.within1 c.timeout 1 10000 then
   (S.wrong_gk c k) (bs [116, 105, 109, 101, 111, 117, 116])
 else
   bif !S.within1 c.ready 0 100 then
   (S.wrong_gk c k) (bs [114, 101, 97, 100, 121])
 else
   bif !S.within1 c.subset 0 100 then
   (S.wrong_gk c k) (bs [115, 117, 98, 115, 101, 116])
 else
   bif !S.within1 c.sample 0 100 then
   (S.wrong_gk c k) (bs [115, 97, 109, 112, 108, 101])
 else
   (S.wrong_gk c k) (bs [])
 else
   bif !S.within c.target 10 1000000 then
   (S.wrong_gk c k) (bs [116, 97, 114, 103, 101, 116])
 else
   bif !S.within c.util 100 1000 then
   (S.wrong_gk c k) (bs [117, 116, 105, 108])
 else
   bif !S.within1 c.stable 6 600 then
   (S.wrong_gk c k) (bs [115, 116, 97, 98, 108, 101])
 else
   bif !S.within1 c.panic 1 c.stable then
   (S.wrong_gk c k) (bs [112, 97, 110, 105, 99])
 else
   bif !S.within1 c.grain 1 c.panic then
   (S.wrong_gk c k) (bs [103, 114, 97, 105, 110])
 else
   bif !S.within c.threshold 1100 10000 then
   (S.wrong_gk c k) (bs [116, 104, 114, 101, 115, 104, 111, 108, 100])
 else
   bif !S.within c.up 1001 1000000 then
   (S.wrong_gk c k) (bs [117, 112])
 else
   bif !S.within c.down 1001 1000000 then
   (S.wrong_gk c k) (bs [100, 111, 119, 110])
 else
   bif !S.within1 c.min 0 100 then
   (S.wrong_gk c k) (bs [109, 105, 110])
 else
   bif !S.within1 c.initial 0 100 then
   (S.wrong_gk c k) (bs [105, 110, 105, 116, 105, 97, 108])
 else
   bif !S.within1 c.grace 0 600 then
   (S.wrong_gk c k) (bs [103, 114, 97, 99, 101])
 else
   bif !S.within1 c.delay 0 600 then
   (S.wrong_gk c k) (bs [100, 101, 108, 97, 121])
 else
   bif !S.within c.burst 0 100000000 then
   (S.wrong_gk c k) (bs [98, 117, 114, 115, 116])
 else
   bif !S.within1 c.limit 1 1000 then
   (S.wrong_gk c k) (bs [108, 105, 109, 105, 116])
 else
   bif !S.within1 c.queue 0 200 then
   (S.wrong_gk c k) (bs [113, 117, 101, 117, 101])
 else
   bif !S.within1 c.timeout 1 10000 then
   (S.wrong_gk c k) (bs [116, 105, 109, 101, 111, 117, 116])
 else
   bif !S.within1 c.ready 0 100 then
   (S.wrong_gk c k) (bs [114, 101, 97, 100, 121])
 else
   bif !S.within1 c.subset 0 100 then
   (S.wrong_gk c k) (bs [115, 117, 98, 115, 101, 116])
 else
   bif !S.within1 c.sample 0 100 then
   (S.wrong_gk c k) (bs [115, 97, 109, 112, 108, 101])
 else
   (S.wrong_gk c k) (bs [])
 else
   bif decide (c.burst = -1000) then
   bif !S.within c.target 10 1000000 then
   (S.wrong_gk c k) (bs [116, 97, 114, 103, 101, 116])
 else
   bif !S.within c.util 100 1000 then
   (S.wrong_gk c k) (bs [117, 116, 105, 108])
 else
   bif !S.within1 c.stable 6 600 then
   (S.wrong_gk c k) (bs [115, 116, 97, 98, 108, 101])
 else
   bif !S.within1 c.panic 1 c.stable then
   (S.wrong_gk c k) (bs [112, 97, 110, 105, 99])
 else
   bif !S.within1 c.grain 1 c.panic then
   (S.wrong_gk c k) (bs [103, 114, 97, 105, 110])
 else
   bif !S.within c.threshold 1100 10000 then
   (S.wrong_gk c k) (bs [116, 104, 114, 101, 115, 104, 111, 108, 100])
 else
   bif !S.within c.up 1001 1000000 then
   (S.wrong_gk c k) (bs [117, 112])
 else
   bif !S.within c.down 1001 1000000 then
   (S.wrong_gk c k) (bs [100, 111, 119, 110])
 else
   bif !S.within1 c.min 0 100 then
   (S.wrong_gk c k) (bs [109, 105, 110])
 else
   bif !S.within1 c.max (if 1 > c.min then 1 else c.min) 100 then
   (S.wrong_gk c k) (bs [109, 97, 120])
 else
   bif !S.within1 c.initial 0 100 then
   (S.wrong_gk c k) (bs [105, 110, 105, 116, 105, 97, 108])
 else
   bif !S.within1 c.grace 0 600 then
   (S.wrong_gk c k) (bs [103, 114, 97, 99, 101])
 else
   bif !S.within1 c.delay 0 600 then
   (S.wrong_gk c k) (bs [100, 101, 108, 97, 121])
 else
   bif !S.within1 c.limit 1 1000 then
   (S.wrong_gk c k) (bs [108, 105, 109, 105, 116])
 else
   bif !S.within1 c.queue 0 200 then
   (S.wrong_gk c k) (bs [113, 117, 101, 117, 101])
 else
   bif !S.within1 c.timeout 1 10000 then
   (S.wrong_gk c k) (bs [116, 105, 109, 101, 111, 117, 116])
 else
   bif !S.within1 c.ready 0 100 then
   (S.wrong_gk c k) (bs [114, 101, 97, 100, 121])
 else
   bif !S.within1 c.subset 0 100 then
   (S.wrong_gk c k) (bs [115, 117, 98, 115, 101, 116])
 else
   bif !S.within1 c.sample 0 100 then
   (S.wrong_gk c k) (bs [115, 97, 109, 112, 108, 101])
 else
   (S.wrong_gk c k) (bs [])
 else
   bif !S.within c.target 10 1000000 then
   (S.wrong_gk c k) (bs [116, 97, 114, 103, 101, 116])
 else
   bif !S.within c.util 100 1000 then
   (S.wrong_gk c k) (bs [117, 116, 105, 108])
 else
   bif !S.within1 c.stable 6 600 then
   (S.wrong_gk c k) (bs [115, 116, 97, 98, 108, 101])
 else
   bif !S.within1 c.panic 1 c.stable then
   (S.wrong_gk c k) (bs [112, 97, 110, 105, 99])
 else
   bif !S.within1 c.grain 1 c.panic then
   (S.wrong_gk c k) (bs [103, 114, 97, 105, 110])
 else
   bif !S.within c.threshold 1100 10000 then
   (S.wrong_gk c k) (bs [116, 104, 114, 101, 115, 104, 111, 108, 100])
 else
   bif !S.within c.up 1001 1000000 then
   (S.wrong_gk c k) (bs [117, 112])
 else
   bif !S.within c.down 1001 1000000 then
   (S.wrong_gk c k) (bs [100, 111, 119, 110])
 else
   bif !S.within1 c.min 0 100 then
   (S.wrong_gk c k) (bs [109, 105, 110])
 else
   bif !S.within1 c.max (if 1 > c.min then 1 else c.min) 100 then
   (S.wrong_gk c k) (bs [109, 97, 120])
 else
   bif !S.within1 c.initial 0 100 then
   (S.wrong_gk c k) (bs [105, 110, 105, 116, 105, 97, 108])
 else
   bif !S.within1 c.grace 0 600 then
   (S.wrong_gk c k) (bs [103, 114, 97, 99, 101])
 else
   bif !S.within1 c.delay 0 600 then
   (S.wrong_gk c k) (bs [100, 101, 108, 97, 121])
 else
   bif !S.within c.burst 0 100000000 then
   (S.wrong_gk c k) (bs [98, 117, 114, 115, 116])
 else
   bif !S.within1 c.limit 1 1000 then
   (S.wrong_gk c k) (bs [108, 105, 109, 105, 116])
 else
   bif !S.within1 c.queue 0 200 then
   (S.wrong_gk c k) (bs [113, 117, 101, 117, 101])
 else
   bif !S.within1 c.timeout 1 10000 then
   (S.wrong_gk c k) (bs [116, 105, 109, 101, 111, 117, 116])
 else
   bif !S.within1 c.ready 0 100 then
   (S.wrong_gk c k) (bs [114, 101, 97, 100, 121])
 else
   bif !S.within1 c.subset 0 100 then
   (S.wrong_gk c k) (bs [115, 117, 98, 115, 101, 116])
 else
   bif !S.within1 c.sample 0 100 then
   (S.wrong_gk c k) (bs [115, 97, 109, 112, 108, 101])
 else
   (S.wrong_gk c k) (bs [])) := by kernel_rfl
noncomputable def S.wrong (c : Cf) : ByteArray :=
  bif !decide (c.max = 0) then
   bif decide (c.max = 0) then
   bif decide (c.burst = -1000) then
   bif !S.within c.target 10 1000000 then
   (bs [116, 97, 114, 103, 101, 116])
 else
   bif !S.within c.util 100 1000 then
   (bs [117, 116, 105, 108])
 else
   bif !S.within1 c.stable 6 600 then
   (bs [115, 116, 97, 98, 108, 101])
 else
   bif !S.within1 c.panic 1 c.stable then
   (bs [112, 97, 110, 105, 99])
 else
   bif !S.within1 c.grain 1 c.panic then
   (bs [103, 114, 97, 105, 110])
 else
   bif !S.within c.threshold 1100 10000 then
   (bs [116, 104, 114, 101, 115, 104, 111, 108, 100])
 else
   bif !S.within c.up 1001 1000000 then
   (bs [117, 112])
 else
   bif !S.within c.down 1001 1000000 then
   (bs [100, 111, 119, 110])
 else
   bif !S.within1 c.min 0 100 then
   (bs [109, 105, 110])
 else
   bif !S.within1 c.initial 0 c.max then
   (bs [105, 110, 105, 116, 105, 97, 108])
 else
   bif !S.within1 c.grace 0 600 then
   (bs [103, 114, 97, 99, 101])
 else
   bif !S.within1 c.delay 0 600 then
   (bs [100, 101, 108, 97, 121])
 else
   bif !S.within1 c.limit 1 1000 then
   (bs [108, 105, 109, 105, 116])
 else
   bif !S.within1 c.queue 0 200 then
   (bs [113, 117, 101, 117, 101])
 else
   bif !S.within1 c.timeout 1 10000 then
   (bs [116, 105, 109, 101, 111, 117, 116])
 else
   bif !S.within1 c.ready 0 100 then
   (bs [114, 101, 97, 100, 121])
 else
   bif !S.within1 c.subset 0 100 then
   (bs [115, 117, 98, 115, 101, 116])
 else
   bif !S.within1 c.sample 0 100 then
   (bs [115, 97, 109, 112, 108, 101])
 else
   (bs [])
 else
   bif !S.within c.target 10 1000000 then
   (bs [116, 97, 114, 103, 101, 116])
 else
   bif !S.within c.util 100 1000 then
   (bs [117, 116, 105, 108])
 else
   bif !S.within1 c.stable 6 600 then
   (bs [115, 116, 97, 98, 108, 101])
 else
   bif !S.within1 c.panic 1 c.stable then
   (bs [112, 97, 110, 105, 99])
 else
   bif !S.within1 c.grain 1 c.panic then
   (bs [103, 114, 97, 105, 110])
 else
   bif !S.within c.threshold 1100 10000 then
   (bs [116, 104, 114, 101, 115, 104, 111, 108, 100])
 else
   bif !S.within c.up 1001 1000000 then
   (bs [117, 112])
 else
   bif !S.within c.down 1001 1000000 then
   (bs [100, 111, 119, 110])
 else
   bif !S.within1 c.min 0 100 then
   (bs [109, 105, 110])
 else
   bif !S.within1 c.initial 0 c.max then
   (bs [105, 110, 105, 116, 105, 97, 108])
 else
   bif !S.within1 c.grace 0 600 then
   (bs [103, 114, 97, 99, 101])
 else
   bif !S.within1 c.delay 0 600 then
   (bs [100, 101, 108, 97, 121])
 else
   bif !S.within c.burst 0 100000000 then
   (bs [98, 117, 114, 115, 116])
 else
   bif !S.within1 c.limit 1 1000 then
   (bs [108, 105, 109, 105, 116])
 else
   bif !S.within1 c.queue 0 200 then
   (bs [113, 117, 101, 117, 101])
 else
   bif !S.within1 c.timeout 1 10000 then
   (bs [116, 105, 109, 101, 111, 117, 116])
 else
   bif !S.within1 c.ready 0 100 then
   (bs [114, 101, 97, 100, 121])
 else
   bif !S.within1 c.subset 0 100 then
   (bs [115, 117, 98, 115, 101, 116])
 else
   bif !S.within1 c.sample 0 100 then
   (bs [115, 97, 109, 112, 108, 101])
 else
   (bs [])
 else
   bif decide (c.burst = -1000) then
   bif !S.within c.target 10 1000000 then
   (bs [116, 97, 114, 103, 101, 116])
 else
   bif !S.within c.util 100 1000 then
   (bs [117, 116, 105, 108])
 else
   bif !S.within1 c.stable 6 600 then
   (bs [115, 116, 97, 98, 108, 101])
 else
   bif !S.within1 c.panic 1 c.stable then
   (bs [112, 97, 110, 105, 99])
 else
   bif !S.within1 c.grain 1 c.panic then
   (bs [103, 114, 97, 105, 110])
 else
   bif !S.within c.threshold 1100 10000 then
   (bs [116, 104, 114, 101, 115, 104, 111, 108, 100])
 else
   bif !S.within c.up 1001 1000000 then
   (bs [117, 112])
 else
   bif !S.within c.down 1001 1000000 then
   (bs [100, 111, 119, 110])
 else
   bif !S.within1 c.min 0 100 then
   (bs [109, 105, 110])
 else
   bif !S.within1 c.max (if 1 > c.min then 1 else c.min) 100 then
   (bs [109, 97, 120])
 else
   bif !S.within1 c.initial 0 c.max then
   (bs [105, 110, 105, 116, 105, 97, 108])
 else
   bif !S.within1 c.grace 0 600 then
   (bs [103, 114, 97, 99, 101])
 else
   bif !S.within1 c.delay 0 600 then
   (bs [100, 101, 108, 97, 121])
 else
   bif !S.within1 c.limit 1 1000 then
   (bs [108, 105, 109, 105, 116])
 else
   bif !S.within1 c.queue 0 200 then
   (bs [113, 117, 101, 117, 101])
 else
   bif !S.within1 c.timeout 1 10000 then
   (bs [116, 105, 109, 101, 111, 117, 116])
 else
   bif !S.within1 c.ready 0 100 then
   (bs [114, 101, 97, 100, 121])
 else
   bif !S.within1 c.subset 0 100 then
   (bs [115, 117, 98, 115, 101, 116])
 else
   bif !S.within1 c.sample 0 100 then
   (bs [115, 97, 109, 112, 108, 101])
 else
   (bs [])
 else
   bif !S.within c.target 10 1000000 then
   (bs [116, 97, 114, 103, 101, 116])
 else
   bif !S.within c.util 100 1000 then
   (bs [117, 116, 105, 108])
 else
   bif !S.within1 c.stable 6 600 then
   (bs [115, 116, 97, 98, 108, 101])
 else
   bif !S.within1 c.panic 1 c.stable then
   (bs [112, 97, 110, 105, 99])
 else
   bif !S.within1 c.grain 1 c.panic then
   (bs [103, 114, 97, 105, 110])
 else
   bif !S.within c.threshold 1100 10000 then
   (bs [116, 104, 114, 101, 115, 104, 111, 108, 100])
 else
   bif !S.within c.up 1001 1000000 then
   (bs [117, 112])
 else
   bif !S.within c.down 1001 1000000 then
   (bs [100, 111, 119, 110])
 else
   bif !S.within1 c.min 0 100 then
   (bs [109, 105, 110])
 else
   bif !S.within1 c.max (if 1 > c.min then 1 else c.min) 100 then
   (bs [109, 97, 120])
 else
   bif !S.within1 c.initial 0 c.max then
   (bs [105, 110, 105, 116, 105, 97, 108])
 else
   bif !S.within1 c.grace 0 600 then
   (bs [103, 114, 97, 99, 101])
 else
   bif !S.within1 c.delay 0 600 then
   (bs [100, 101, 108, 97, 121])
 else
   bif !S.within c.burst 0 100000000 then
   (bs [98, 117, 114, 115, 116])
 else
   bif !S.within1 c.limit 1 1000 then
   (bs [108, 105, 109, 105, 116])
 else
   bif !S.within1 c.queue 0 200 then
   (bs [113, 117, 101, 117, 101])
 else
   bif !S.within1 c.timeout 1 10000 then
   (bs [116, 105, 109, 101, 111, 117, 116])
 else
   bif !S.within1 c.ready 0 100 then
   (bs [114, 101, 97, 100, 121])
 else
   bif !S.within1 c.subset 0 100 then
   (bs [115, 117, 98, 115, 101, 116])
 else
   bif !S.within1 c.sample 0 100 then
   (bs [115, 97, 109, 112, 108, 101])
 else
   (bs [])
 else
   bif decide (c.max = 0) then
   bif decide (c.burst = -1000) then
   bif !S.within c.target 10 1000000 then
   (bs [116, 97, 114, 103, 101, 116])
 else
   bif !S.within c.util 100 1000 then
   (bs [117, 116, 105, 108])
 else
   bif !S.within1 c.stable 6 600 then
   (bs [115, 116, 97, 98, 108, 101])
 else
   bif !S.within1 c.panic 1 c.stable then
   (bs [112, 97, 110, 105, 99])
 else
   bif !S.within1 c.grain 1 c.panic then
   (bs [103, 114, 97, 105, 110])
 else
   bif !S.within c.threshold 1100 10000 then
   (bs [116, 104, 114, 101, 115, 104, 111, 108, 100])
 else
   bif !S.within c.up 1001 1000000 then
   (bs [117, 112])
 else
   bif !S.within c.down 1001 1000000 then
   (bs [100, 111, 119, 110])
 else
   bif !S.within1 c.min 0 100 then
   (bs [109, 105, 110])
 else
   bif !S.within1 c.initial 0 100 then
   (bs [105, 110, 105, 116, 105, 97, 108])
 else
   bif !S.within1 c.grace 0 600 then
   (bs [103, 114, 97, 99, 101])
 else
   bif !S.within1 c.delay 0 600 then
   (bs [100, 101, 108, 97, 121])
 else
   bif !S.within1 c.limit 1 1000 then
   (bs [108, 105, 109, 105, 116])
 else
   bif !S.within1 c.queue 0 200 then
   (bs [113, 117, 101, 117, 101])
 else
   bif !S.within1 c.timeout 1 10000 then
   (bs [116, 105, 109, 101, 111, 117, 116])
 else
   bif !S.within1 c.ready 0 100 then
   (bs [114, 101, 97, 100, 121])
 else
   bif !S.within1 c.subset 0 100 then
   (bs [115, 117, 98, 115, 101, 116])
 else
   bif !S.within1 c.sample 0 100 then
   (bs [115, 97, 109, 112, 108, 101])
 else
   (bs [])
 else
   bif !S.within c.target 10 1000000 then
   (bs [116, 97, 114, 103, 101, 116])
 else
   bif !S.within c.util 100 1000 then
   (bs [117, 116, 105, 108])
 else
   bif !S.within1 c.stable 6 600 then
   (bs [115, 116, 97, 98, 108, 101])
 else
   bif !S.within1 c.panic 1 c.stable then
   (bs [112, 97, 110, 105, 99])
 else
   bif !S.within1 c.grain 1 c.panic then
   (bs [103, 114, 97, 105, 110])
 else
   bif !S.within c.threshold 1100 10000 then
   (bs [116, 104, 114, 101, 115, 104, 111, 108, 100])
 else
   bif !S.within c.up 1001 1000000 then
   (bs [117, 112])
 else
   bif !S.within c.down 1001 1000000 then
   (bs [100, 111, 119, 110])
 else
   bif !S.within1 c.min 0 100 then
   (bs [109, 105, 110])
 else
   bif !S.within1 c.initial 0 100 then
   (bs [105, 110, 105, 116, 105, 97, 108])
 else
   bif !S.within1 c.grace 0 600 then
   (bs [103, 114, 97, 99, 101])
 else
   bif !S.within1 c.delay 0 600 then
   (bs [100, 101, 108, 97, 121])
 else
   bif !S.within c.burst 0 100000000 then
   (bs [98, 117, 114, 115, 116])
 else
   bif !S.within1 c.limit 1 1000 then
   (bs [108, 105, 109, 105, 116])
 else
   bif !S.within1 c.queue 0 200 then
   (bs [113, 117, 101, 117, 101])
 else
   bif !S.within1 c.timeout 1 10000 then
   (bs [116, 105, 109, 101, 111, 117, 116])
 else
   bif !S.within1 c.ready 0 100 then
   (bs [114, 101, 97, 100, 121])
 else
   bif !S.within1 c.subset 0 100 then
   (bs [115, 117, 98, 115, 101, 116])
 else
   bif !S.within1 c.sample 0 100 then
   (bs [115, 97, 109, 112, 108, 101])
 else
   (bs [])
 else
   bif decide (c.burst = -1000) then
   bif !S.within c.target 10 1000000 then
   (bs [116, 97, 114, 103, 101, 116])
 else
   bif !S.within c.util 100 1000 then
   (bs [117, 116, 105, 108])
 else
   bif !S.within1 c.stable 6 600 then
   (bs [115, 116, 97, 98, 108, 101])
 else
   bif !S.within1 c.panic 1 c.stable then
   (bs [112, 97, 110, 105, 99])
 else
   bif !S.within1 c.grain 1 c.panic then
   (bs [103, 114, 97, 105, 110])
 else
   bif !S.within c.threshold 1100 10000 then
   (bs [116, 104, 114, 101, 115, 104, 111, 108, 100])
 else
   bif !S.within c.up 1001 1000000 then
   (bs [117, 112])
 else
   bif !S.within c.down 1001 1000000 then
   (bs [100, 111, 119, 110])
 else
   bif !S.within1 c.min 0 100 then
   (bs [109, 105, 110])
 else
   bif !S.within1 c.max (if 1 > c.min then 1 else c.min) 100 then
   (bs [109, 97, 120])
 else
   bif !S.within1 c.initial 0 100 then
   (bs [105, 110, 105, 116, 105, 97, 108])
 else
   bif !S.within1 c.grace 0 600 then
   (bs [103, 114, 97, 99, 101])
 else
   bif !S.within1 c.delay 0 600 then
   (bs [100, 101, 108, 97, 121])
 else
   bif !S.within1 c.limit 1 1000 then
   (bs [108, 105, 109, 105, 116])
 else
   bif !S.within1 c.queue 0 200 then
   (bs [113, 117, 101, 117, 101])
 else
   bif !S.within1 c.timeout 1 10000 then
   (bs [116, 105, 109, 101, 111, 117, 116])
 else
   bif !S.within1 c.ready 0 100 then
   (bs [114, 101, 97, 100, 121])
 else
   bif !S.within1 c.subset 0 100 then
   (bs [115, 117, 98, 115, 101, 116])
 else
   bif !S.within1 c.sample 0 100 then
   (bs [115, 97, 109, 112, 108, 101])
 else
   (bs [])
 else
   bif !S.within c.target 10 1000000 then
   (bs [116, 97, 114, 103, 101, 116])
 else
   bif !S.within c.util 100 1000 then
   (bs [117, 116, 105, 108])
 else
   bif !S.within1 c.stable 6 600 then
   (bs [115, 116, 97, 98, 108, 101])
 else
   bif !S.within1 c.panic 1 c.stable then
   (bs [112, 97, 110, 105, 99])
 else
   bif !S.within1 c.grain 1 c.panic then
   (bs [103, 114, 97, 105, 110])
 else
   bif !S.within c.threshold 1100 10000 then
   (bs [116, 104, 114, 101, 115, 104, 111, 108, 100])
 else
   bif !S.within c.up 1001 1000000 then
   (bs [117, 112])
 else
   bif !S.within c.down 1001 1000000 then
   (bs [100, 111, 119, 110])
 else
   bif !S.within1 c.min 0 100 then
   (bs [109, 105, 110])
 else
   bif !S.within1 c.max (if 1 > c.min then 1 else c.min) 100 then
   (bs [109, 97, 120])
 else
   bif !S.within1 c.initial 0 100 then
   (bs [105, 110, 105, 116, 105, 97, 108])
 else
   bif !S.within1 c.grace 0 600 then
   (bs [103, 114, 97, 99, 101])
 else
   bif !S.within1 c.delay 0 600 then
   (bs [100, 101, 108, 97, 121])
 else
   bif !S.within c.burst 0 100000000 then
   (bs [98, 117, 114, 115, 116])
 else
   bif !S.within1 c.limit 1 1000 then
   (bs [108, 105, 109, 105, 116])
 else
   bif !S.within1 c.queue 0 200 then
   (bs [113, 117, 101, 117, 101])
 else
   bif !S.within1 c.timeout 1 10000 then
   (bs [116, 105, 109, 101, 111, 117, 116])
 else
   bif !S.within1 c.ready 0 100 then
   (bs [114, 101, 97, 100, 121])
 else
   bif !S.within1 c.subset 0 100 then
   (bs [115, 117, 98, 115, 101, 116])
 else
   bif !S.within1 c.sample 0 100 then
   (bs [115, 97, 109, 112, 108, 101])
 else
   (bs [])
theorem S.wrong_v {R : Type} (c : Cf) (k : AVal → List Blk → Option R) : S.wrong_L c k = (S.wrong_gk c k) (S.wrong c) :=
  (S.wrong_k c k).trans (bif_lift (f := (S.wrong_gk c k)) (bif_lift (f := (S.wrong_gk c k)) (bif_lift (f := (S.wrong_gk c k)) (bif_lift (f := (S.wrong_gk c k)) rfl (bif_lift (f := (S.wrong_gk c k)) rfl (bif_lift (f := (S.wrong_gk c k)) rfl (bif_lift (f := (S.wrong_gk c k)) rfl (bif_lift (f := (S.wrong_gk c k)) rfl (bif_lift (f := (S.wrong_gk c k)) rfl (bif_lift (f := (S.wrong_gk c k)) rfl (bif_lift (f := (S.wrong_gk c k)) rfl (bif_lift (f := (S.wrong_gk c k)) rfl (bif_lift (f := (S.wrong_gk c k)) rfl (bif_lift (f := (S.wrong_gk c k)) rfl (bif_lift (f := (S.wrong_gk c k)) rfl (bif_lift (f := (S.wrong_gk c k)) rfl (bif_lift (f := (S.wrong_gk c k)) rfl (bif_lift (f := (S.wrong_gk c k)) rfl (bif_lift (f := (S.wrong_gk c k)) rfl (bif_lift (f := (S.wrong_gk c k)) rfl (bif_lift (f := (S.wrong_gk c k)) rfl rfl)))))))))))))))))) (bif_lift (f := (S.wrong_gk c k)) rfl (bif_lift (f := (S.wrong_gk c k)) rfl (bif_lift (f := (S.wrong_gk c k)) rfl (bif_lift (f := (S.wrong_gk c k)) rfl (bif_lift (f := (S.wrong_gk c k)) rfl (bif_lift (f := (S.wrong_gk c k)) rfl (bif_lift (f := (S.wrong_gk c k)) rfl (bif_lift (f := (S.wrong_gk c k)) rfl (bif_lift (f := (S.wrong_gk c k)) rfl (bif_lift (f := (S.wrong_gk c k)) rfl (bif_lift (f := (S.wrong_gk c k)) rfl (bif_lift (f := (S.wrong_gk c k)) rfl (bif_lift (f := (S.wrong_gk c k)) rfl (bif_lift (f := (S.wrong_gk c k)) rfl (bif_lift (f := (S.wrong_gk c k)) rfl (bif_lift (f := (S.wrong_gk c k)) rfl (bif_lift (f := (S.wrong_gk c k)) rfl (bif_lift (f := (S.wrong_gk c k)) rfl (bif_lift (f := (S.wrong_gk c k)) rfl rfl)))))))))))))))))))) (bif_lift (f := (S.wrong_gk c k)) (bif_lift (f := (S.wrong_gk c k)) rfl (bif_lift (f := (S.wrong_gk c k)) rfl (bif_lift (f := (S.wrong_gk c k)) rfl (bif_lift (f := (S.wrong_gk c k)) rfl (bif_lift (f := (S.wrong_gk c k)) rfl (bif_lift (f := (S.wrong_gk c k)) rfl (bif_lift (f := (S.wrong_gk c k)) rfl (bif_lift (f := (S.wrong_gk c k)) rfl (bif_lift (f := (S.wrong_gk c k)) rfl (bif_lift (f := (S.wrong_gk c k)) rfl (bif_lift (f := (S.wrong_gk c k)) rfl (bif_lift (f := (S.wrong_gk c k)) rfl (bif_lift (f := (S.wrong_gk c k)) rfl (bif_lift (f := (S.wrong_gk c k)) rfl (bif_lift (f := (S.wrong_gk c k)) rfl (bif_lift (f := (S.wrong_gk c k)) rfl (bif_lift (f := (S.wrong_gk c k)) rfl (bif_lift (f := (S.wrong_gk c k)) rfl (bif_lift (f := (S.wrong_gk c k)) rfl rfl))))))))))))))))))) (bif_lift (f := (S.wrong_gk c k)) rfl (bif_lift (f := (S.wrong_gk c k)) rfl (bif_lift (f := (S.wrong_gk c k)) rfl (bif_lift (f := (S.wrong_gk c k)) rfl (bif_lift (f := (S.wrong_gk c k)) rfl (bif_lift (f := (S.wrong_gk c k)) rfl (bif_lift (f := (S.wrong_gk c k)) rfl (bif_lift (f := (S.wrong_gk c k)) rfl (bif_lift (f := (S.wrong_gk c k)) rfl (bif_lift (f := (S.wrong_gk c k)) rfl (bif_lift (f := (S.wrong_gk c k)) rfl (bif_lift (f := (S.wrong_gk c k)) rfl (bif_lift (f := (S.wrong_gk c k)) rfl (bif_lift (f := (S.wrong_gk c k)) rfl (bif_lift (f := (S.wrong_gk c k)) rfl (bif_lift (f := (S.wrong_gk c k)) rfl (bif_lift (f := (S.wrong_gk c k)) rfl (bif_lift (f := (S.wrong_gk c k)) rfl (bif_lift (f := (S.wrong_gk c k)) rfl (bif_lift (f := (S.wrong_gk c k)) rfl rfl)))))))))))))))))))))) (bif_lift (f := (S.wrong_gk c k)) (bif_lift (f := (S.wrong_gk c k)) (bif_lift (f := (S.wrong_gk c k)) rfl (bif_lift (f := (S.wrong_gk c k)) rfl (bif_lift (f := (S.wrong_gk c k)) rfl (bif_lift (f := (S.wrong_gk c k)) rfl (bif_lift (f := (S.wrong_gk c k)) rfl (bif_lift (f := (S.wrong_gk c k)) rfl (bif_lift (f := (S.wrong_gk c k)) rfl (bif_lift (f := (S.wrong_gk c k)) rfl (bif_lift (f := (S.wrong_gk c k)) rfl (bif_lift (f := (S.wrong_gk c k)) rfl (bif_lift (f := (S.wrong_gk c k)) rfl (bif_lift (f := (S.wrong_gk c k)) rfl (bif_lift (f := (S.wrong_gk c k)) rfl (bif_lift (f := (S.wrong_gk c k)) rfl (bif_lift (f := (S.wrong_gk c k)) rfl (bif_lift (f := (S.wrong_gk c k)) rfl (bif_lift (f := (S.wrong_gk c k)) rfl (bif_lift (f := (S.wrong_gk c k)) rfl rfl)))))))))))))))))) (bif_lift (f := (S.wrong_gk c k)) rfl (bif_lift (f := (S.wrong_gk c k)) rfl (bif_lift (f := (S.wrong_gk c k)) rfl (bif_lift (f := (S.wrong_gk c k)) rfl (bif_lift (f := (S.wrong_gk c k)) rfl (bif_lift (f := (S.wrong_gk c k)) rfl (bif_lift (f := (S.wrong_gk c k)) rfl (bif_lift (f := (S.wrong_gk c k)) rfl (bif_lift (f := (S.wrong_gk c k)) rfl (bif_lift (f := (S.wrong_gk c k)) rfl (bif_lift (f := (S.wrong_gk c k)) rfl (bif_lift (f := (S.wrong_gk c k)) rfl (bif_lift (f := (S.wrong_gk c k)) rfl (bif_lift (f := (S.wrong_gk c k)) rfl (bif_lift (f := (S.wrong_gk c k)) rfl (bif_lift (f := (S.wrong_gk c k)) rfl (bif_lift (f := (S.wrong_gk c k)) rfl (bif_lift (f := (S.wrong_gk c k)) rfl (bif_lift (f := (S.wrong_gk c k)) rfl rfl)))))))))))))))))))) (bif_lift (f := (S.wrong_gk c k)) (bif_lift (f := (S.wrong_gk c k)) rfl (bif_lift (f := (S.wrong_gk c k)) rfl (bif_lift (f := (S.wrong_gk c k)) rfl (bif_lift (f := (S.wrong_gk c k)) rfl (bif_lift (f := (S.wrong_gk c k)) rfl (bif_lift (f := (S.wrong_gk c k)) rfl (bif_lift (f := (S.wrong_gk c k)) rfl (bif_lift (f := (S.wrong_gk c k)) rfl (bif_lift (f := (S.wrong_gk c k)) rfl (bif_lift (f := (S.wrong_gk c k)) rfl (bif_lift (f := (S.wrong_gk c k)) rfl (bif_lift (f := (S.wrong_gk c k)) rfl (bif_lift (f := (S.wrong_gk c k)) rfl (bif_lift (f := (S.wrong_gk c k)) rfl (bif_lift (f := (S.wrong_gk c k)) rfl (bif_lift (f := (S.wrong_gk c k)) rfl (bif_lift (f := (S.wrong_gk c k)) rfl (bif_lift (f := (S.wrong_gk c k)) rfl (bif_lift (f := (S.wrong_gk c k)) rfl rfl))))))))))))))))))) (bif_lift (f := (S.wrong_gk c k)) rfl (bif_lift (f := (S.wrong_gk c k)) rfl (bif_lift (f := (S.wrong_gk c k)) rfl (bif_lift (f := (S.wrong_gk c k)) rfl (bif_lift (f := (S.wrong_gk c k)) rfl (bif_lift (f := (S.wrong_gk c k)) rfl (bif_lift (f := (S.wrong_gk c k)) rfl (bif_lift (f := (S.wrong_gk c k)) rfl (bif_lift (f := (S.wrong_gk c k)) rfl (bif_lift (f := (S.wrong_gk c k)) rfl (bif_lift (f := (S.wrong_gk c k)) rfl (bif_lift (f := (S.wrong_gk c k)) rfl (bif_lift (f := (S.wrong_gk c k)) rfl (bif_lift (f := (S.wrong_gk c k)) rfl (bif_lift (f := (S.wrong_gk c k)) rfl (bif_lift (f := (S.wrong_gk c k)) rfl (bif_lift (f := (S.wrong_gk c k)) rfl (bif_lift (f := (S.wrong_gk c k)) rfl (bif_lift (f := (S.wrong_gk c k)) rfl (bif_lift (f := (S.wrong_gk c k)) rfl rfl)))))))))))))))))))))))
noncomputable def H66 : Hnd := fun R args σ k => match args, σ with
  | [.agg [.int .i64 target_, .int .i64 util_, .int .i64 stable_, .int .i64 panic_, .int .i64 grain_, .int .i64 threshold_, .int .i64 up_, .int .i64 down_, .int .i64 min_, .int .i64 max_, .int .i64 initial_, .int .i64 grace_, .int .i64 delay_, .int .i64 burst_, .int .i64 limit_, .int .i64 queue_, .int .i64 timeout_, .int .i64 ready_, .int .i64 subset_, .int .i64 sample_]], [] => k (.str (S.wrong ⟨target_, util_, stable_, panic_, grain_, threshold_, up_, down_, min_, max_, initial_, grace_, delay_, burst_, limit_, queue_, timeout_, ready_, subset_, sample_⟩)) []
  | _, _ => none
theorem H66_ok : HndOk Tryz.prog 66 H66 := hnd_ok tis tisOk mixOk G96_ok F66 Tryz.func66 rfl (by
  intro R args σ k r h
  unfold H66 at h
  split at h
  · rename_i target_ util_ stable_ panic_ grain_ threshold_ up_ down_ min_ max_ initial_ grace_ delay_ burst_ limit_ queue_ timeout_ ready_ subset_ sample_; exact ⟨40, (S.wrong_v ⟨target_, util_, stable_, panic_, grain_, threshold_, up_, down_, min_, max_, initial_, grace_, delay_, burst_, limit_, queue_, timeout_, ready_, subset_, sample_⟩ _).trans h⟩
  · cases h)
noncomputable def G66 : Env := Env.add 66 H66 G96
theorem G66_ok : EnvOk Tryz.prog G66 := envAdd_ok H66_ok G96_ok

/-! conf.May -/
def F27 : FCfg := ⟨keepAt [(0, [1]), (1, [2])], loopAt [], []⟩
noncomputable def S.may_L {R : Type} (c : Cf) (k : AVal → List Blk → Option R) : Option R := fnEval tis F27 0 G66 Tryz.f27 [.agg (cfA c)] [] k
theorem S.may_k {R : Type} (c : Cf) (k : AVal → List Blk → Option R) : S.may_L c k =
  (k (.bool (Array.toList (ByteArray.data (S.wrong c)) == Array.toList (ByteArray.data (bs [])))) ([])) := by kernel_rfl
noncomputable def S.may (c : Cf) : Bool :=
  (Array.toList (ByteArray.data (S.wrong c)) == Array.toList (ByteArray.data (bs [])))
theorem S.may_v {R : Type} (c : Cf) (k : AVal → List Blk → Option R) : S.may_L c k = k (.bool (S.may c)) [] :=
  (S.may_k c k).trans rfl
noncomputable def H27 : Hnd := fun R args σ k => match args, σ with
  | [.agg [.int .i64 target_, .int .i64 util_, .int .i64 stable_, .int .i64 panic_, .int .i64 grain_, .int .i64 threshold_, .int .i64 up_, .int .i64 down_, .int .i64 min_, .int .i64 max_, .int .i64 initial_, .int .i64 grace_, .int .i64 delay_, .int .i64 burst_, .int .i64 limit_, .int .i64 queue_, .int .i64 timeout_, .int .i64 ready_, .int .i64 subset_, .int .i64 sample_]], [] => k (.bool (S.may ⟨target_, util_, stable_, panic_, grain_, threshold_, up_, down_, min_, max_, initial_, grace_, delay_, burst_, limit_, queue_, timeout_, ready_, subset_, sample_⟩)) []
  | _, _ => none
theorem H27_ok : HndOk Tryz.prog 27 H27 := hnd_ok tis tisOk mixOk G66_ok F27 Tryz.func27 rfl (by
  intro R args σ k r h
  unfold H27 at h
  split at h
  · rename_i target_ util_ stable_ panic_ grain_ threshold_ up_ down_ min_ max_ initial_ grace_ delay_ burst_ limit_ queue_ timeout_ ready_ subset_ sample_; exact ⟨0, (S.may_v ⟨target_, util_, stable_, panic_, grain_, threshold_, up_, down_, min_, max_, initial_, grace_, delay_, burst_, limit_, queue_, timeout_, ready_, subset_, sample_⟩ _).trans h⟩
  · cases h)
noncomputable def G27 : Env := Env.add 27 H27 G66
theorem G27_ok : EnvOk Tryz.prog G27 := envAdd_ok H27_ok G66_ok
end Go.Proofs.YtdgipcjigbagfaaGreat.AB
