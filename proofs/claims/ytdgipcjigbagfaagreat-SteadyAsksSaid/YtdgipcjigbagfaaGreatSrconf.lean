/- The document's functions of the settings, as plain functions. -/
import Derived.Test.YtdgipcjigbagfaaGreatSconf
namespace Go.Proofs.YtdgipcjigbagfaaGreat.AB
set_option linter.unusedVariables false

/-! spinnakerref1.in -/
def F100 : FCfg := ⟨keepAt [(0, [0, 1, 2]), (1, [6])], loopAt [], []⟩
noncomputable def S.rin_L {R : Type} (n lo hi : Int) (k : AVal → List Blk → Option R) : Option R := fnEval tis F100 0 G27 Tryz.f100 [.int .i64 n, .int .i64 lo, .int .i64 hi] [] k
noncomputable def S.rin_gk {R : Type} (n lo hi : Int) (k : AVal → List Blk → Option R) : (Bool) → Option R := (fun v : Bool => k (.bool v) [])
noncomputable def S.rin (n lo hi : Int) : Bool :=
  bif decide (lo ≤ n) then
   (decide (n ≤ hi))
 else
   (false)
theorem S.rin_v {R : Type} (n lo hi : Int) (k : AVal → List Blk → Option R) : S.rin_L n lo hi k = (S.rin_gk n lo hi k) (S.rin n lo hi) :=
  Eq.trans (b := (bif decide (lo ≤ n) then
   (S.rin_gk n lo hi k) (decide (n ≤ hi))
 else
   (S.rin_gk n lo hi k) (false))) (by kernel_rfl) (bif_lift (f := (S.rin_gk n lo hi k)) rfl rfl)
noncomputable def H100 : Hnd := fun R args σ k => match args, σ with
  | [.int .i64 n, .int .i64 lo, .int .i64 hi], [] => k (.bool (S.rin n lo hi)) []
  | _, _ => none
theorem H100_ok : HndOk Tryz.prog 100 H100 := hnd_ok tis tisOk mixOk G27_ok F100 Tryz.func100 rfl (by
  intro R args σ k r h
  unfold H100 at h
  split at h
  · rename_i n lo hi; exact ⟨0, (S.rin_v n lo hi _).trans h⟩
  · cases h)
noncomputable def G100 : Env := Env.add 100 H100 G27
theorem G100_ok : EnvOk Tryz.prog G100 := envAdd_ok H100_ok G27_ok

/-! spinnakerref1.Values -/
def F99 : FCfg := ⟨keepAt [(0, [1]), (1, [2])], loopAt [], []⟩
noncomputable def S.rvalues_L {R : Type} (c : Cf) (k : AVal → List Blk → Option R) : Option R := fnEval tis F99 0 G100 Tryz.f99 [.agg (cfA c)] [] k
noncomputable def S.rvalues (c : Cf) : List Int :=
  ([c.target, c.util, c.stable, c.panic, c.grain, c.threshold, c.up, c.down, c.min, c.max, c.initial, c.grace, c.delay, c.burst, c.limit, c.queue, c.timeout, c.ready, c.subset, c.sample])
theorem S.rvalues_v {R : Type} (c : Cf) (k : AVal → List Blk → Option R) : S.rvalues_L c k = k (.slice 1 0 (0) (20) none) [(.rows (Cd.int .i64) (S.rvalues c) false)] :=
  Eq.trans (b := (k (.slice 1 0 0 20 Option.none) ([.rows (Cd.int .i64) [c.target, c.util, c.stable, c.panic, c.grain, c.threshold, c.up, c.down, c.min, c.max, c.initial, c.grace, c.delay, c.burst, c.limit, c.queue, c.timeout, c.ready, c.subset, c.sample] false]))) (by kernel_rfl) rfl
noncomputable def H99 : Hnd := fun R args σ k => match args, σ with
  | [.agg [.int .i64 target_, .int .i64 util_, .int .i64 stable_, .int .i64 panic_, .int .i64 grain_, .int .i64 threshold_, .int .i64 up_, .int .i64 down_, .int .i64 min_, .int .i64 max_, .int .i64 initial_, .int .i64 grace_, .int .i64 delay_, .int .i64 burst_, .int .i64 limit_, .int .i64 queue_, .int .i64 timeout_, .int .i64 ready_, .int .i64 subset_, .int .i64 sample_]], [] => k (.slice 1 0 (0) (20) none) [(.rows (Cd.int .i64) (S.rvalues ⟨target_, util_, stable_, panic_, grain_, threshold_, up_, down_, min_, max_, initial_, grace_, delay_, burst_, limit_, queue_, timeout_, ready_, subset_, sample_⟩) false)]
  | _, _ => none
theorem H99_ok : HndOk Tryz.prog 99 H99 := hnd_ok tis tisOk mixOk G100_ok F99 Tryz.func99 rfl (by
  intro R args σ k r h
  unfold H99 at h
  split at h
  · rename_i target_ util_ stable_ panic_ grain_ threshold_ up_ down_ min_ max_ initial_ grace_ delay_ burst_ limit_ queue_ timeout_ ready_ subset_ sample_; exact ⟨0, (S.rvalues_v ⟨target_, util_, stable_, panic_, grain_, threshold_, up_, down_, min_, max_, initial_, grace_, delay_, burst_, limit_, queue_, timeout_, ready_, subset_, sample_⟩ _).trans h⟩
  · cases h)
noncomputable def G99 : Env := Env.add 99 H99 G100
theorem G99_ok : EnvOk Tryz.prog G99 := envAdd_ok H99_ok G100_ok

/-! spinnakerref1.Names -/
def F101 : FCfg := ⟨keepAt [(0, []), (1, [0])], loopAt [], []⟩
noncomputable def S.rnames_L {R : Type}  (k : AVal → List Blk → Option R) : Option R := fnEval tis F101 0 G99 Tryz.f101 [] [] k
noncomputable def S.rnames  : List ByteArray :=
  ([bs [116, 97, 114, 103, 101, 116], bs [117, 116, 105, 108], bs [115, 116, 97, 98, 108, 101], bs [112, 97, 110, 105, 99], bs [103, 114, 97, 105, 110], bs [116, 104, 114, 101, 115, 104, 111, 108, 100], bs [117, 112], bs [100, 111, 119, 110], bs [109, 105, 110], bs [109, 97, 120], bs [105, 110, 105, 116, 105, 97, 108], bs [103, 114, 97, 99, 101], bs [100, 101, 108, 97, 121], bs [98, 117, 114, 115, 116], bs [108, 105, 109, 105, 116], bs [113, 117, 101, 117, 101], bs [116, 105, 109, 101, 111, 117, 116], bs [114, 101, 97, 100, 121], bs [115, 117, 98, 115, 101, 116], bs [115, 97, 109, 112, 108, 101]])
theorem S.rnames_v {R : Type}  (k : AVal → List Blk → Option R) : S.rnames_L k = k (.slice 1 0 (0) (20) none) [(.rows (Cd.str) (S.rnames) false)] :=
  Eq.trans (b := (k (.slice 1 0 0 20 Option.none) ([.rows Cd.str [bs [116, 97, 114, 103, 101, 116], bs [117, 116, 105, 108], bs [115, 116, 97, 98, 108, 101], bs [112, 97, 110, 105, 99], bs [103, 114, 97, 105, 110], bs [116, 104, 114, 101, 115, 104, 111, 108, 100], bs [117, 112], bs [100, 111, 119, 110], bs [109, 105, 110], bs [109, 97, 120], bs [105, 110, 105, 116, 105, 97, 108], bs [103, 114, 97, 99, 101], bs [100, 101, 108, 97, 121], bs [98, 117, 114, 115, 116], bs [108, 105, 109, 105, 116], bs [113, 117, 101, 117, 101], bs [116, 105, 109, 101, 111, 117, 116], bs [114, 101, 97, 100, 121], bs [115, 117, 98, 115, 101, 116], bs [115, 97, 109, 112, 108, 101]] false]))) (by kernel_rfl) rfl
noncomputable def H101 : Hnd := fun R args σ k => match args, σ with
  | [], [] => k (.slice 1 0 (0) (20) none) [(.rows (Cd.str) (S.rnames) false)]
  | _, _ => none
theorem H101_ok : HndOk Tryz.prog 101 H101 := hnd_ok tis tisOk mixOk G99_ok F101 Tryz.func101 rfl (by
  intro R args σ k r h
  unfold H101 at h
  split at h
  · exact ⟨0, (S.rnames_v _).trans h⟩
  · cases h)
noncomputable def G101 : Env := Env.add 101 H101 G99
theorem G101_ok : EnvOk Tryz.prog G101 := envAdd_ok H101_ok G99_ok

/-! spinnakerref1.Wrong -/
def F70 : FCfg := ⟨keepAt [(0, [1]), (1, [1, 3]), (2, [1, 3, 4]), (3, [1, 3, 4, 11]), (4, [3, 4]), (5, [5]), (6, [5, 6]), (7, [5, 6, 121]), (8, [5, 6]), (9, [5, 6, 128]), (10, [2]), (11, [2])], loopAt [(7, [5, 6], [])], []⟩
noncomputable def S.rwrong_L {R : Type} (c : Cf) (k : AVal → List Blk → Option R) : Option R := fnEval tis F70 40 G101 Tryz.f70 [.agg (cfA c)] [] k
noncomputable def S.rwrong_gk {R : Type} (c : Cf) (k : AVal → List Blk → Option R) : (ByteArray) → Option R := (fun v : ByteArray => k (.str v) [])
noncomputable def S.rwrong (c : Cf) : ByteArray :=
  bif decide (0 < c.max) then
   bif decide (c.max = 0) then
   bif decide (c.burst = -1000) then
   bif !S.rin c.target 10 1000000 then
   (bs [116, 97, 114, 103, 101, 116])
 else
   bif !S.rin c.util 100 1000 then
   (bs [117, 116, 105, 108])
 else
   bif !S.rin c.stable 6 600 then
   (bs [115, 116, 97, 98, 108, 101])
 else
   bif !S.rin c.panic 1 c.stable then
   (bs [112, 97, 110, 105, 99])
 else
   bif !S.rin c.grain 1 c.panic then
   (bs [103, 114, 97, 105, 110])
 else
   bif !S.rin c.threshold 1100 10000 then
   (bs [116, 104, 114, 101, 115, 104, 111, 108, 100])
 else
   bif !S.rin c.up 1001 1000000 then
   (bs [117, 112])
 else
   bif !S.rin c.down 1001 1000000 then
   (bs [100, 111, 119, 110])
 else
   bif !S.rin c.min 0 100 then
   (bs [109, 105, 110])
 else
   bif !S.rin c.initial 0 c.max then
   (bs [105, 110, 105, 116, 105, 97, 108])
 else
   bif !S.rin c.grace 0 600 then
   (bs [103, 114, 97, 99, 101])
 else
   bif !S.rin c.delay 0 600 then
   (bs [100, 101, 108, 97, 121])
 else
   bif !S.rin c.limit 1 1000 then
   (bs [108, 105, 109, 105, 116])
 else
   bif !S.rin c.queue 0 200 then
   (bs [113, 117, 101, 117, 101])
 else
   bif !S.rin c.timeout 1 10000 then
   (bs [116, 105, 109, 101, 111, 117, 116])
 else
   bif !S.rin c.ready 0 100 then
   (bs [114, 101, 97, 100, 121])
 else
   bif !S.rin c.subset 0 100 then
   (bs [115, 117, 98, 115, 101, 116])
 else
   bif !S.rin c.sample 0 100 then
   (bs [115, 97, 109, 112, 108, 101])
 else
   (bs [])
 else
   bif !S.rin c.target 10 1000000 then
   (bs [116, 97, 114, 103, 101, 116])
 else
   bif !S.rin c.util 100 1000 then
   (bs [117, 116, 105, 108])
 else
   bif !S.rin c.stable 6 600 then
   (bs [115, 116, 97, 98, 108, 101])
 else
   bif !S.rin c.panic 1 c.stable then
   (bs [112, 97, 110, 105, 99])
 else
   bif !S.rin c.grain 1 c.panic then
   (bs [103, 114, 97, 105, 110])
 else
   bif !S.rin c.threshold 1100 10000 then
   (bs [116, 104, 114, 101, 115, 104, 111, 108, 100])
 else
   bif !S.rin c.up 1001 1000000 then
   (bs [117, 112])
 else
   bif !S.rin c.down 1001 1000000 then
   (bs [100, 111, 119, 110])
 else
   bif !S.rin c.min 0 100 then
   (bs [109, 105, 110])
 else
   bif !S.rin c.initial 0 c.max then
   (bs [105, 110, 105, 116, 105, 97, 108])
 else
   bif !S.rin c.grace 0 600 then
   (bs [103, 114, 97, 99, 101])
 else
   bif !S.rin c.delay 0 600 then
   (bs [100, 101, 108, 97, 121])
 else
   bif !S.rin c.burst 0 100000000 then
   (bs [98, 117, 114, 115, 116])
 else
   bif !S.rin c.limit 1 1000 then
   (bs [108, 105, 109, 105, 116])
 else
   bif !S.rin c.queue 0 200 then
   (bs [113, 117, 101, 117, 101])
 else
   bif !S.rin c.timeout 1 10000 then
   (bs [116, 105, 109, 101, 111, 117, 116])
 else
   bif !S.rin c.ready 0 100 then
   (bs [114, 101, 97, 100, 121])
 else
   bif !S.rin c.subset 0 100 then
   (bs [115, 117, 98, 115, 101, 116])
 else
   bif !S.rin c.sample 0 100 then
   (bs [115, 97, 109, 112, 108, 101])
 else
   (bs [])
 else
   bif decide (c.burst = -1000) then
   bif !S.rin c.target 10 1000000 then
   (bs [116, 97, 114, 103, 101, 116])
 else
   bif !S.rin c.util 100 1000 then
   (bs [117, 116, 105, 108])
 else
   bif !S.rin c.stable 6 600 then
   (bs [115, 116, 97, 98, 108, 101])
 else
   bif !S.rin c.panic 1 c.stable then
   (bs [112, 97, 110, 105, 99])
 else
   bif !S.rin c.grain 1 c.panic then
   (bs [103, 114, 97, 105, 110])
 else
   bif !S.rin c.threshold 1100 10000 then
   (bs [116, 104, 114, 101, 115, 104, 111, 108, 100])
 else
   bif !S.rin c.up 1001 1000000 then
   (bs [117, 112])
 else
   bif !S.rin c.down 1001 1000000 then
   (bs [100, 111, 119, 110])
 else
   bif !S.rin c.min 0 100 then
   (bs [109, 105, 110])
 else
   bif !S.rin c.max (if 1 > c.min then 1 else c.min) 100 then
   (bs [109, 97, 120])
 else
   bif !S.rin c.initial 0 c.max then
   (bs [105, 110, 105, 116, 105, 97, 108])
 else
   bif !S.rin c.grace 0 600 then
   (bs [103, 114, 97, 99, 101])
 else
   bif !S.rin c.delay 0 600 then
   (bs [100, 101, 108, 97, 121])
 else
   bif !S.rin c.limit 1 1000 then
   (bs [108, 105, 109, 105, 116])
 else
   bif !S.rin c.queue 0 200 then
   (bs [113, 117, 101, 117, 101])
 else
   bif !S.rin c.timeout 1 10000 then
   (bs [116, 105, 109, 101, 111, 117, 116])
 else
   bif !S.rin c.ready 0 100 then
   (bs [114, 101, 97, 100, 121])
 else
   bif !S.rin c.subset 0 100 then
   (bs [115, 117, 98, 115, 101, 116])
 else
   bif !S.rin c.sample 0 100 then
   (bs [115, 97, 109, 112, 108, 101])
 else
   (bs [])
 else
   bif !S.rin c.target 10 1000000 then
   (bs [116, 97, 114, 103, 101, 116])
 else
   bif !S.rin c.util 100 1000 then
   (bs [117, 116, 105, 108])
 else
   bif !S.rin c.stable 6 600 then
   (bs [115, 116, 97, 98, 108, 101])
 else
   bif !S.rin c.panic 1 c.stable then
   (bs [112, 97, 110, 105, 99])
 else
   bif !S.rin c.grain 1 c.panic then
   (bs [103, 114, 97, 105, 110])
 else
   bif !S.rin c.threshold 1100 10000 then
   (bs [116, 104, 114, 101, 115, 104, 111, 108, 100])
 else
   bif !S.rin c.up 1001 1000000 then
   (bs [117, 112])
 else
   bif !S.rin c.down 1001 1000000 then
   (bs [100, 111, 119, 110])
 else
   bif !S.rin c.min 0 100 then
   (bs [109, 105, 110])
 else
   bif !S.rin c.max (if 1 > c.min then 1 else c.min) 100 then
   (bs [109, 97, 120])
 else
   bif !S.rin c.initial 0 c.max then
   (bs [105, 110, 105, 116, 105, 97, 108])
 else
   bif !S.rin c.grace 0 600 then
   (bs [103, 114, 97, 99, 101])
 else
   bif !S.rin c.delay 0 600 then
   (bs [100, 101, 108, 97, 121])
 else
   bif !S.rin c.burst 0 100000000 then
   (bs [98, 117, 114, 115, 116])
 else
   bif !S.rin c.limit 1 1000 then
   (bs [108, 105, 109, 105, 116])
 else
   bif !S.rin c.queue 0 200 then
   (bs [113, 117, 101, 117, 101])
 else
   bif !S.rin c.timeout 1 10000 then
   (bs [116, 105, 109, 101, 111, 117, 116])
 else
   bif !S.rin c.ready 0 100 then
   (bs [114, 101, 97, 100, 121])
 else
   bif !S.rin c.subset 0 100 then
   (bs [115, 117, 98, 115, 101, 116])
 else
   bif !S.rin c.sample 0 100 then
   (bs [115, 97, 109, 112, 108, 101])
 else
   (bs [])
 else
   bif decide (c.max = 0) then
   bif decide (c.burst = -1000) then
   bif !S.rin c.target 10 1000000 then
   (bs [116, 97, 114, 103, 101, 116])
 else
   bif !S.rin c.util 100 1000 then
   (bs [117, 116, 105, 108])
 else
   bif !S.rin c.stable 6 600 then
   (bs [115, 116, 97, 98, 108, 101])
 else
   bif !S.rin c.panic 1 c.stable then
   (bs [112, 97, 110, 105, 99])
 else
   bif !S.rin c.grain 1 c.panic then
   (bs [103, 114, 97, 105, 110])
 else
   bif !S.rin c.threshold 1100 10000 then
   (bs [116, 104, 114, 101, 115, 104, 111, 108, 100])
 else
   bif !S.rin c.up 1001 1000000 then
   (bs [117, 112])
 else
   bif !S.rin c.down 1001 1000000 then
   (bs [100, 111, 119, 110])
 else
   bif !S.rin c.min 0 100 then
   (bs [109, 105, 110])
 else
   bif !S.rin c.initial 0 100 then
   (bs [105, 110, 105, 116, 105, 97, 108])
 else
   bif !S.rin c.grace 0 600 then
   (bs [103, 114, 97, 99, 101])
 else
   bif !S.rin c.delay 0 600 then
   (bs [100, 101, 108, 97, 121])
 else
   bif !S.rin c.limit 1 1000 then
   (bs [108, 105, 109, 105, 116])
 else
   bif !S.rin c.queue 0 200 then
   (bs [113, 117, 101, 117, 101])
 else
   bif !S.rin c.timeout 1 10000 then
   (bs [116, 105, 109, 101, 111, 117, 116])
 else
   bif !S.rin c.ready 0 100 then
   (bs [114, 101, 97, 100, 121])
 else
   bif !S.rin c.subset 0 100 then
   (bs [115, 117, 98, 115, 101, 116])
 else
   bif !S.rin c.sample 0 100 then
   (bs [115, 97, 109, 112, 108, 101])
 else
   (bs [])
 else
   bif !S.rin c.target 10 1000000 then
   (bs [116, 97, 114, 103, 101, 116])
 else
   bif !S.rin c.util 100 1000 then
   (bs [117, 116, 105, 108])
 else
   bif !S.rin c.stable 6 600 then
   (bs [115, 116, 97, 98, 108, 101])
 else
   bif !S.rin c.panic 1 c.stable then
   (bs [112, 97, 110, 105, 99])
 else
   bif !S.rin c.grain 1 c.panic then
   (bs [103, 114, 97, 105, 110])
 else
   bif !S.rin c.threshold 1100 10000 then
   (bs [116, 104, 114, 101, 115, 104, 111, 108, 100])
 else
   bif !S.rin c.up 1001 1000000 then
   (bs [117, 112])
 else
   bif !S.rin c.down 1001 1000000 then
   (bs [100, 111, 119, 110])
 else
   bif !S.rin c.min 0 100 then
   (bs [109, 105, 110])
 else
   bif !S.rin c.initial 0 100 then
   (bs [105, 110, 105, 116, 105, 97, 108])
 else
   bif !S.rin c.grace 0 600 then
   (bs [103, 114, 97, 99, 101])
 else
   bif !S.rin c.delay 0 600 then
   (bs [100, 101, 108, 97, 121])
 else
   bif !S.rin c.burst 0 100000000 then
   (bs [98, 117, 114, 115, 116])
 else
   bif !S.rin c.limit 1 1000 then
   (bs [108, 105, 109, 105, 116])
 else
   bif !S.rin c.queue 0 200 then
   (bs [113, 117, 101, 117, 101])
 else
   bif !S.rin c.timeout 1 10000 then
   (bs [116, 105, 109, 101, 111, 117, 116])
 else
   bif !S.rin c.ready 0 100 then
   (bs [114, 101, 97, 100, 121])
 else
   bif !S.rin c.subset 0 100 then
   (bs [115, 117, 98, 115, 101, 116])
 else
   bif !S.rin c.sample 0 100 then
   (bs [115, 97, 109, 112, 108, 101])
 else
   (bs [])
 else
   bif decide (c.burst = -1000) then
   bif !S.rin c.target 10 1000000 then
   (bs [116, 97, 114, 103, 101, 116])
 else
   bif !S.rin c.util 100 1000 then
   (bs [117, 116, 105, 108])
 else
   bif !S.rin c.stable 6 600 then
   (bs [115, 116, 97, 98, 108, 101])
 else
   bif !S.rin c.panic 1 c.stable then
   (bs [112, 97, 110, 105, 99])
 else
   bif !S.rin c.grain 1 c.panic then
   (bs [103, 114, 97, 105, 110])
 else
   bif !S.rin c.threshold 1100 10000 then
   (bs [116, 104, 114, 101, 115, 104, 111, 108, 100])
 else
   bif !S.rin c.up 1001 1000000 then
   (bs [117, 112])
 else
   bif !S.rin c.down 1001 1000000 then
   (bs [100, 111, 119, 110])
 else
   bif !S.rin c.min 0 100 then
   (bs [109, 105, 110])
 else
   bif !S.rin c.max (if 1 > c.min then 1 else c.min) 100 then
   (bs [109, 97, 120])
 else
   bif !S.rin c.initial 0 100 then
   (bs [105, 110, 105, 116, 105, 97, 108])
 else
   bif !S.rin c.grace 0 600 then
   (bs [103, 114, 97, 99, 101])
 else
   bif !S.rin c.delay 0 600 then
   (bs [100, 101, 108, 97, 121])
 else
   bif !S.rin c.limit 1 1000 then
   (bs [108, 105, 109, 105, 116])
 else
   bif !S.rin c.queue 0 200 then
   (bs [113, 117, 101, 117, 101])
 else
   bif !S.rin c.timeout 1 10000 then
   (bs [116, 105, 109, 101, 111, 117, 116])
 else
   bif !S.rin c.ready 0 100 then
   (bs [114, 101, 97, 100, 121])
 else
   bif !S.rin c.subset 0 100 then
   (bs [115, 117, 98, 115, 101, 116])
 else
   bif !S.rin c.sample 0 100 then
   (bs [115, 97, 109, 112, 108, 101])
 else
   (bs [])
 else
   bif !S.rin c.target 10 1000000 then
   (bs [116, 97, 114, 103, 101, 116])
 else
   bif !S.rin c.util 100 1000 then
   (bs [117, 116, 105, 108])
 else
   bif !S.rin c.stable 6 600 then
   (bs [115, 116, 97, 98, 108, 101])
 else
   bif !S.rin c.panic 1 c.stable then
   (bs [112, 97, 110, 105, 99])
 else
   bif !S.rin c.grain 1 c.panic then
   (bs [103, 114, 97, 105, 110])
 else
   bif !S.rin c.threshold 1100 10000 then
   (bs [116, 104, 114, 101, 115, 104, 111, 108, 100])
 else
   bif !S.rin c.up 1001 1000000 then
   (bs [117, 112])
 else
   bif !S.rin c.down 1001 1000000 then
   (bs [100, 111, 119, 110])
 else
   bif !S.rin c.min 0 100 then
   (bs [109, 105, 110])
 else
   bif !S.rin c.max (if 1 > c.min then 1 else c.min) 100 then
   (bs [109, 97, 120])
 else
   bif !S.rin c.initial 0 100 then
   (bs [105, 110, 105, 116, 105, 97, 108])
 else
   bif !S.rin c.grace 0 600 then
   (bs [103, 114, 97, 99, 101])
 else
   bif !S.rin c.delay 0 600 then
   (bs [100, 101, 108, 97, 121])
 else
   bif !S.rin c.burst 0 100000000 then
   (bs [98, 117, 114, 115, 116])
 else
   bif !S.rin c.limit 1 1000 then
   (bs [108, 105, 109, 105, 116])
 else
   bif !S.rin c.queue 0 200 then
   (bs [113, 117, 101, 117, 101])
 else
   bif !S.rin c.timeout 1 10000 then
   (bs [116, 105, 109, 101, 111, 117, 116])
 else
   bif !S.rin c.ready 0 100 then
   (bs [114, 101, 97, 100, 121])
 else
   bif !S.rin c.subset 0 100 then
   (bs [115, 117, 98, 115, 101, 116])
 else
   bif !S.rin c.sample 0 100 then
   (bs [115, 97, 109, 112, 108, 101])
 else
   (bs [])
theorem S.rwrong_v {R : Type} (c : Cf) (k : AVal → List Blk → Option R) : S.rwrong_L c k = (S.rwrong_gk c k) (S.rwrong c) :=
  Eq.trans (b := (bif decide (0 < c.max) then
   bif decide (c.max = 0) then
   bif decide (c.burst = -1000) then
   bif !S.rin c.target 10 1000000 then
   (S.rwrong_gk c k) (bs [116, 97, 114, 103, 101, 116])
 else
   bif !S.rin c.util 100 1000 then
   (S.rwrong_gk c k) (bs [117, 116, 105, 108])
 else
   bif !S.rin c.stable 6 600 then
   (S.rwrong_gk c k) (bs [115, 116, 97, 98, 108, 101])
 else
   bif !S.rin c.panic 1 c.stable then
   (S.rwrong_gk c k) (bs [112, 97, 110, 105, 99])
 else
   bif !S.rin c.grain 1 c.panic then
   (S.rwrong_gk c k) (bs [103, 114, 97, 105, 110])
 else
   bif !S.rin c.threshold 1100 10000 then
   (S.rwrong_gk c k) (bs [116, 104, 114, 101, 115, 104, 111, 108, 100])
 else
   bif !S.rin c.up 1001 1000000 then
   (S.rwrong_gk c k) (bs [117, 112])
 else
   bif !S.rin c.down 1001 1000000 then
   (S.rwrong_gk c k) (bs [100, 111, 119, 110])
 else
   bif !S.rin c.min 0 100 then
   (S.rwrong_gk c k) (bs [109, 105, 110])
 else
   bif !S.rin c.initial 0 c.max then
   (S.rwrong_gk c k) (bs [105, 110, 105, 116, 105, 97, 108])
 else
   bif !S.rin c.grace 0 600 then
   (S.rwrong_gk c k) (bs [103, 114, 97, 99, 101])
 else
   bif !S.rin c.delay 0 600 then
   (S.rwrong_gk c k) (bs [100, 101, 108, 97, 121])
 else
   bif !S.rin c.limit 1 1000 then
   (S.rwrong_gk c k) (bs [108, 105, 109, 105, 116])
 else
   bif !S.rin c.queue 0 200 then
   (S.rwrong_gk c k) (bs [113, 117, 101, 117, 101])
 else
   bif !S.rin c.timeout 1 10000 then
   (S.rwrong_gk c k) (bs [116, 105, 109, 101, 111, 117, 116])
 else
   bif !S.rin c.ready 0 100 then
   (S.rwrong_gk c k) (bs [114, 101, 97, 100, 121])
 else
   bif !S.rin c.subset 0 100 then
   (S.rwrong_gk c k) (bs [115, 117, 98, 115, 101, 116])
 else
   bif !S.rin c.sample 0 100 then
   (S.rwrong_gk c k) (bs [115, 97, 109, 112, 108, 101])
 else
   (S.rwrong_gk c k) (bs [])
 else
   bif !S.rin c.target 10 1000000 then
   (S.rwrong_gk c k) (bs [116, 97, 114, 103, 101, 116])
 else
   bif !S.rin c.util 100 1000 then
   (S.rwrong_gk c k) (bs [117, 116, 105, 108])
 else
   bif !S.rin c.stable 6 600 then
   (S.rwrong_gk c k) (bs [115, 116, 97, 98, 108, 101])
 else
   bif !S.rin c.panic 1 c.stable then
   (S.rwrong_gk c k) (bs [112, 97, 110, 105, 99])
 else
   bif !S.rin c.grain 1 c.panic then
   (S.rwrong_gk c k) (bs [103, 114, 97, 105, 110])
 else
   bif !S.rin c.threshold 1100 10000 then
   (S.rwrong_gk c k) (bs [116, 104, 114, 101, 115, 104, 111, 108, 100])
 else
   bif !S.rin c.up 1001 1000000 then
   (S.rwrong_gk c k) (bs [117, 112])
 else
   bif !S.rin c.down 1001 1000000 then
   (S.rwrong_gk c k) (bs [100, 111, 119, 110])
 else
   bif !S.rin c.min 0 100 then
   (S.rwrong_gk c k) (bs [109, 105, 110])
 else
   bif !S.rin c.initial 0 c.max then
   (S.rwrong_gk c k) (bs [105, 110, 105, 116, 105, 97, 108])
 else
   bif !S.rin c.grace 0 600 then
   (S.rwrong_gk c k) (bs [103, 114, 97, 99, 101])
 else
   bif !S.rin c.delay 0 600 then
   (S.rwrong_gk c k) (bs [100, 101, 108, 97, 121])
 else
   bif !S.rin c.burst 0 100000000 then
   (S.rwrong_gk c k) (bs [98, 117, 114, 115, 116])
 else
   bif !S.rin c.limit 1 1000 then
   (S.rwrong_gk c k) (bs [108, 105, 109, 105, 116])
 else
   bif !S.rin c.queue 0 200 then
   (S.rwrong_gk c k) (bs [113, 117, 101, 117, 101])
 else
   bif !S.rin c.timeout 1 10000 then
   (S.rwrong_gk c k) (bs [116, 105, 109, 101, 111, 117, 116])
 else
   bif !S.rin c.ready 0 100 then
   (S.rwrong_gk c k) (bs [114, 101, 97, 100, 121])
 else
   bif !S.rin c.subset 0 100 then
   (S.rwrong_gk c k) (bs [115, 117, 98, 115, 101, 116])
 else
   bif !S.rin c.sample 0 100 then
   (S.rwrong_gk c k) (bs [115, 97, 109, 112, 108, 101])
 else
   (S.rwrong_gk c k) (bs [])
 else
   bif decide (c.burst = -1000) then
   bif !S.rin c.target 10 1000000 then
   (S.rwrong_gk c k) (bs [116, 97, 114, 103, 101, 116])
 else
   bif !S.rin c.util 100 1000 then
   (S.rwrong_gk c k) (bs [117, 116, 105, 108])
 else
   bif !S.rin c.stable 6 600 then
   (S.rwrong_gk c k) (bs [115, 116, 97, 98, 108, 101])
 else
   bif !S.rin c.panic 1 c.stable then
   (S.rwrong_gk c k) (bs [112, 97, 110, 105, 99])
 else
   bif !S.rin c.grain 1 c.panic then
   (S.rwrong_gk c k) (bs [103, 114, 97, 105, 110])
 else
   bif !S.rin c.threshold 1100 10000 then
   (S.rwrong_gk c k) (bs [116, 104, 114, 101, 115, 104, 111, 108, 100])
 else
   bif !S.rin c.up 1001 1000000 then
   (S.rwrong_gk c k) (bs [117, 112])
 else
   bif !S.rin c.down 1001 1000000 then
   (S.rwrong_gk c k) (bs [100, 111, 119, 110])
 else
   bif !S.rin c.min 0 100 then
   (S.rwrong_gk c k) (bs [109, 105, 110])
 else
   bif !S.rin c.max (if 1 > c.min then 1 else c.min) 100 then
   (S.rwrong_gk c k) (bs [109, 97, 120])
 else
   bif !S.rin c.initial 0 c.max then
   (S.rwrong_gk c k) (bs [105, 110, 105, 116, 105, 97, 108])
 else
   bif !S.rin c.grace 0 600 then
   (S.rwrong_gk c k) (bs [103, 114, 97, 99, 101])
 else
   bif !S.rin c.delay 0 600 then
   (S.rwrong_gk c k) (bs [100, 101, 108, 97, 121])
 else
   bif !S.rin c.limit 1 1000 then
   (S.rwrong_gk c k) (bs [108, 105, 109, 105, 116])
 else
   bif !S.rin c.queue 0 200 then
   (S.rwrong_gk c k) (bs [113, 117, 101, 117, 101])
 else
   bif !S.rin c.timeout 1 10000 then
   (S.rwrong_gk c k) (bs [116, 105, 109, 101, 111, 117, 116])
 else
   bif !S.rin c.ready 0 100 then
   (S.rwrong_gk c k) (bs [114, 101, 97, 100, 121])
 else
   bif !S.rin c.subset 0 100 then
   (S.rwrong_gk c k) (bs [115, 117, 98, 115, 101, 116])
 else
   bif !S.rin c.sample 0 100 then
   (S.rwrong_gk c k) (bs [115, 97, 109, 112, 108, 101])
 else
   (S.rwrong_gk c k) (bs [])
 else
   bif !S.rin c.target 10 1000000 then
   (S.rwrong_gk c k) (bs [116, 97, 114, 103, 101, 116])
 else
   bif !S.rin c.util 100 1000 then
   (S.rwrong_gk c k) (bs [117, 116, 105, 108])
 else
   bif !S.rin c.stable 6 600 then
   (S.rwrong_gk c k) (bs [115, 116, 97, 98, 108, 101])
 else
   bif !S.rin c.panic 1 c.stable then
   (S.rwrong_gk c k) (bs [112, 97, 110, 105, 99])
 else
   bif !S.rin c.grain 1 c.panic then
   (S.rwrong_gk c k) (bs [103, 114, 97, 105, 110])
 else
   bif !S.rin c.threshold 1100 10000 then
   (S.rwrong_gk c k) (bs [116, 104, 114, 101, 115, 104, 111, 108, 100])
 else
   bif !S.rin c.up 1001 1000000 then
   (S.rwrong_gk c k) (bs [117, 112])
 else
   bif !S.rin c.down 1001 1000000 then
   (S.rwrong_gk c k) (bs [100, 111, 119, 110])
 else
   bif !S.rin c.min 0 100 then
   (S.rwrong_gk c k) (bs [109, 105, 110])
 else
   bif !S.rin c.max (if 1 > c.min then 1 else c.min) 100 then
   (S.rwrong_gk c k) (bs [109, 97, 120])
 else
   bif !S.rin c.initial 0 c.max then
   (S.rwrong_gk c k) (bs [105, 110, 105, 116, 105, 97, 108])
 else
   bif !S.rin c.grace 0 600 then
   (S.rwrong_gk c k) (bs [103, 114, 97, 99, 101])
 else
   bif !S.rin c.delay 0 600 then
   (S.rwrong_gk c k) (bs [100, 101, 108, 97, 121])
 else
   bif !S.rin c.burst 0 100000000 then
   (S.rwrong_gk c k) (bs [98, 117, 114, 115, 116])
 else
   bif !S.rin c.limit 1 1000 then
   (S.rwrong_gk c k) (bs [108, 105, 109, 105, 116])
 else
   bif !S.rin c.queue 0 200 then
   (S.rwrong_gk c k) (bs [113, 117, 101, 117, 101])
 else
   bif !S.rin c.timeout 1 10000 then
   (S.rwrong_gk c k) (bs [116, 105, 109, 101, 111, 117, 116])
 else
   bif !S.rin c.ready 0 100 then
   (S.rwrong_gk c k) (bs [114, 101, 97, 100, 121])
 else
   bif !S.rin c.subset 0 100 then
   (S.rwrong_gk c k) (bs [115, 117, 98, 115, 101, 116])
 else
   bif !S.rin c.sample 0 100 then
   (S.rwrong_gk c k) (bs [115, 97, 109, 112, 108, 101])
 else
   (S.rwrong_gk c k) (bs [])
 else
   bif decide (c.max = 0) then
   bif decide (c.burst = -1000) then
   bif !S.rin c.target 10 1000000 then
   (S.rwrong_gk c k) (bs [116, 97, 114, 103, 101, 116])
 else
   bif !S.rin c.util 100 1000 then
   (S.rwrong_gk c k) (bs [117, 116, 105, 108])
 else
   bif !S.rin c.stable 6 600 then
   (S.rwrong_gk c k) (bs [115, 116, 97, 98, 108, 101])
 else
   bif !S.rin c.panic 1 c.stable then
   (S.rwrong_gk c k) (bs [112, 97, 110, 105, 99])
 else
   bif !S.rin c.grain 1 c.panic then
   (S.rwrong_gk c k) (bs [103, 114, 97, 105, 110])
 else
   bif !S.rin c.threshold 1100 10000 then
   (S.rwrong_gk c k) (bs [116, 104, 114, 101, 115, 104, 111, 108, 100])
 else
   bif !S.rin c.up 1001 1000000 then
   (S.rwrong_gk c k) (bs [117, 112])
 else
   bif !S.rin c.down 1001 1000000 then
   (S.rwrong_gk c k) (bs [100, 111, 119, 110])
 else
   bif !S.rin c.min 0 100 then
   (S.rwrong_gk c k) (bs [109, 105, 110])
 else
   bif !S.rin c.initial 0 100 then
   (S.rwrong_gk c k) (bs [105, 110, 105, 116, 105, 97, 108])
 else
   bif !S.rin c.grace 0 600 then
   (S.rwrong_gk c k) (bs [103, 114, 97, 99, 101])
 else
   bif !S.rin c.delay 0 600 then
   (S.rwrong_gk c k) (bs [100, 101, 108, 97, 121])
 else
   bif !S.rin c.limit 1 1000 then
   (S.rwrong_gk c k) (bs [108, 105, 109, 105, 116])
 else
   bif !S.rin c.queue 0 200 then
   (S.rwrong_gk c k) (bs [113, 117, 101, 117, 101])
 else
   bif !S.rin c.timeout 1 10000 then
   (S.rwrong_gk c k) (bs [116, 105, 109, 101, 111, 117, 116])
 else
   bif !S.rin c.ready 0 100 then
   (S.rwrong_gk c k) (bs [114, 101, 97, 100, 121])
 else
   bif !S.rin c.subset 0 100 then
   (S.rwrong_gk c k) (bs [115, 117, 98, 115, 101, 116])
 else
   bif !S.rin c.sample 0 100 then
   (S.rwrong_gk c k) (bs [115, 97, 109, 112, 108, 101])
 else
   (S.rwrong_gk c k) (bs [])
 else
   bif !S.rin c.target 10 1000000 then
   (S.rwrong_gk c k) (bs [116, 97, 114, 103, 101, 116])
 else
   bif !S.rin c.util 100 1000 then
   (S.rwrong_gk c k) (bs [117, 116, 105, 108])
 else
   bif !S.rin c.stable 6 600 then
   (S.rwrong_gk c k) (bs [115, 116, 97, 98, 108, 101])
 else
   bif !S.rin c.panic 1 c.stable then
   (S.rwrong_gk c k) (bs [112, 97, 110, 105, 99])
 else
   bif !S.rin c.grain 1 c.panic then
   (S.rwrong_gk c k) (bs [103, 114, 97, 105, 110])
 else
   bif !S.rin c.threshold 1100 10000 then
   (S.rwrong_gk c k) (bs [116, 104, 114, 101, 115, 104, 111, 108, 100])
 else
   bif !S.rin c.up 1001 1000000 then
   (S.rwrong_gk c k) (bs [117, 112])
 else
   bif !S.rin c.down 1001 1000000 then
   (S.rwrong_gk c k) (bs [100, 111, 119, 110])
 else
   bif !S.rin c.min 0 100 then
   (S.rwrong_gk c k) (bs [109, 105, 110])
 else
   bif !S.rin c.initial 0 100 then
   (S.rwrong_gk c k) (bs [105, 110, 105, 116, 105, 97, 108])
 else
   bif !S.rin c.grace 0 600 then
   (S.rwrong_gk c k) (bs [103, 114, 97, 99, 101])
 else
   bif !S.rin c.delay 0 600 then
   (S.rwrong_gk c k) (bs [100, 101, 108, 97, 121])
 else
   bif !S.rin c.burst 0 100000000 then
   (S.rwrong_gk c k) (bs [98, 117, 114, 115, 116])
 else
   bif !S.rin c.limit 1 1000 then
   (S.rwrong_gk c k) (bs [108, 105, 109, 105, 116])
 else
   bif !S.rin c.queue 0 200 then
   (S.rwrong_gk c k) (bs [113, 117, 101, 117, 101])
 else
   bif !S.rin c.timeout 1 10000 then
   (S.rwrong_gk c k) (bs [116, 105, 109, 101, 111, 117, 116])
 else
   bif !S.rin c.ready 0 100 then
   (S.rwrong_gk c k) (bs [114, 101, 97, 100, 121])
 else
   bif !S.rin c.subset 0 100 then
   (S.rwrong_gk c k) (bs [115, 117, 98, 115, 101, 116])
 else
   bif !S.rin c.sample 0 100 then
   (S.rwrong_gk c k) (bs [115, 97, 109, 112, 108, 101])
 else
   (S.rwrong_gk c k) (bs [])
 else
   bif decide (c.burst = -1000) then
   bif !S.rin c.target 10 1000000 then
   (S.rwrong_gk c k) (bs [116, 97, 114, 103, 101, 116])
 else
   bif !S.rin c.util 100 1000 then
   (S.rwrong_gk c k) (bs [117, 116, 105, 108])
 else
   bif !S.rin c.stable 6 600 then
   (S.rwrong_gk c k) (bs [115, 116, 97, 98, 108, 101])
 else
   bif !S.rin c.panic 1 c.stable then
   (S.rwrong_gk c k) (bs [112, 97, 110, 105, 99])
 else
   bif !S.rin c.grain 1 c.panic then
   (S.rwrong_gk c k) (bs [103, 114, 97, 105, 110])
 else
   bif !S.rin c.threshold 1100 10000 then
   (S.rwrong_gk c k) (bs [116, 104, 114, 101, 115, 104, 111, 108, 100])
 else
   bif !S.rin c.up 1001 1000000 then
   (S.rwrong_gk c k) (bs [117, 112])
 else
   bif !S.rin c.down 1001 1000000 then
   (S.rwrong_gk c k) (bs [100, 111, 119, 110])
 else
   bif !S.rin c.min 0 100 then
   (S.rwrong_gk c k) (bs [109, 105, 110])
 else
   bif !S.rin c.max (if 1 > c.min then 1 else c.min) 100 then
   (S.rwrong_gk c k) (bs [109, 97, 120])
 else
   bif !S.rin c.initial 0 100 then
   (S.rwrong_gk c k) (bs [105, 110, 105, 116, 105, 97, 108])
 else
   bif !S.rin c.grace 0 600 then
   (S.rwrong_gk c k) (bs [103, 114, 97, 99, 101])
 else
   bif !S.rin c.delay 0 600 then
   (S.rwrong_gk c k) (bs [100, 101, 108, 97, 121])
 else
   bif !S.rin c.limit 1 1000 then
   (S.rwrong_gk c k) (bs [108, 105, 109, 105, 116])
 else
   bif !S.rin c.queue 0 200 then
   (S.rwrong_gk c k) (bs [113, 117, 101, 117, 101])
 else
   bif !S.rin c.timeout 1 10000 then
   (S.rwrong_gk c k) (bs [116, 105, 109, 101, 111, 117, 116])
 else
   bif !S.rin c.ready 0 100 then
   (S.rwrong_gk c k) (bs [114, 101, 97, 100, 121])
 else
   bif !S.rin c.subset 0 100 then
   (S.rwrong_gk c k) (bs [115, 117, 98, 115, 101, 116])
 else
   bif !S.rin c.sample 0 100 then
   (S.rwrong_gk c k) (bs [115, 97, 109, 112, 108, 101])
 else
   (S.rwrong_gk c k) (bs [])
 else
   bif !S.rin c.target 10 1000000 then
   (S.rwrong_gk c k) (bs [116, 97, 114, 103, 101, 116])
 else
   bif !S.rin c.util 100 1000 then
   (S.rwrong_gk c k) (bs [117, 116, 105, 108])
 else
   bif !S.rin c.stable 6 600 then
   (S.rwrong_gk c k) (bs [115, 116, 97, 98, 108, 101])
 else
   bif !S.rin c.panic 1 c.stable then
   (S.rwrong_gk c k) (bs [112, 97, 110, 105, 99])
 else
   bif !S.rin c.grain 1 c.panic then
   (S.rwrong_gk c k) (bs [103, 114, 97, 105, 110])
 else
   bif !S.rin c.threshold 1100 10000 then
   (S.rwrong_gk c k) (bs [116, 104, 114, 101, 115, 104, 111, 108, 100])
 else
   bif !S.rin c.up 1001 1000000 then
   (S.rwrong_gk c k) (bs [117, 112])
 else
   bif !S.rin c.down 1001 1000000 then
   (S.rwrong_gk c k) (bs [100, 111, 119, 110])
 else
   bif !S.rin c.min 0 100 then
   (S.rwrong_gk c k) (bs [109, 105, 110])
 else
   bif !S.rin c.max (if 1 > c.min then 1 else c.min) 100 then
   (S.rwrong_gk c k) (bs [109, 97, 120])
 else
   bif !S.rin c.initial 0 100 then
   (S.rwrong_gk c k) (bs [105, 110, 105, 116, 105, 97, 108])
 else
   bif !S.rin c.grace 0 600 then
   (S.rwrong_gk c k) (bs [103, 114, 97, 99, 101])
 else
   bif !S.rin c.delay 0 600 then
   (S.rwrong_gk c k) (bs [100, 101, 108, 97, 121])
 else
   bif !S.rin c.burst 0 100000000 then
   (S.rwrong_gk c k) (bs [98, 117, 114, 115, 116])
 else
   bif !S.rin c.limit 1 1000 then
   (S.rwrong_gk c k) (bs [108, 105, 109, 105, 116])
 else
   bif !S.rin c.queue 0 200 then
   (S.rwrong_gk c k) (bs [113, 117, 101, 117, 101])
 else
   bif !S.rin c.timeout 1 10000 then
   (S.rwrong_gk c k) (bs [116, 105, 109, 101, 111, 117, 116])
 else
   bif !S.rin c.ready 0 100 then
   (S.rwrong_gk c k) (bs [114, 101, 97, 100, 121])
 else
   bif !S.rin c.subset 0 100 then
   (S.rwrong_gk c k) (bs [115, 117, 98, 115, 101, 116])
 else
   bif !S.rin c.sample 0 100 then
   (S.rwrong_gk c k) (bs [115, 97, 109, 112, 108, 101])
 else
   (S.rwrong_gk c k) (bs []))) (by kernel_rfl) (bif_lift (f := (S.rwrong_gk c k)) (bif_lift (f := (S.rwrong_gk c k)) (bif_lift (f := (S.rwrong_gk c k)) (bif_lift (f := (S.rwrong_gk c k)) rfl (bif_lift (f := (S.rwrong_gk c k)) rfl (bif_lift (f := (S.rwrong_gk c k)) rfl (bif_lift (f := (S.rwrong_gk c k)) rfl (bif_lift (f := (S.rwrong_gk c k)) rfl (bif_lift (f := (S.rwrong_gk c k)) rfl (bif_lift (f := (S.rwrong_gk c k)) rfl (bif_lift (f := (S.rwrong_gk c k)) rfl (bif_lift (f := (S.rwrong_gk c k)) rfl (bif_lift (f := (S.rwrong_gk c k)) rfl (bif_lift (f := (S.rwrong_gk c k)) rfl (bif_lift (f := (S.rwrong_gk c k)) rfl (bif_lift (f := (S.rwrong_gk c k)) rfl (bif_lift (f := (S.rwrong_gk c k)) rfl (bif_lift (f := (S.rwrong_gk c k)) rfl (bif_lift (f := (S.rwrong_gk c k)) rfl (bif_lift (f := (S.rwrong_gk c k)) rfl (bif_lift (f := (S.rwrong_gk c k)) rfl rfl)))))))))))))))))) (bif_lift (f := (S.rwrong_gk c k)) rfl (bif_lift (f := (S.rwrong_gk c k)) rfl (bif_lift (f := (S.rwrong_gk c k)) rfl (bif_lift (f := (S.rwrong_gk c k)) rfl (bif_lift (f := (S.rwrong_gk c k)) rfl (bif_lift (f := (S.rwrong_gk c k)) rfl (bif_lift (f := (S.rwrong_gk c k)) rfl (bif_lift (f := (S.rwrong_gk c k)) rfl (bif_lift (f := (S.rwrong_gk c k)) rfl (bif_lift (f := (S.rwrong_gk c k)) rfl (bif_lift (f := (S.rwrong_gk c k)) rfl (bif_lift (f := (S.rwrong_gk c k)) rfl (bif_lift (f := (S.rwrong_gk c k)) rfl (bif_lift (f := (S.rwrong_gk c k)) rfl (bif_lift (f := (S.rwrong_gk c k)) rfl (bif_lift (f := (S.rwrong_gk c k)) rfl (bif_lift (f := (S.rwrong_gk c k)) rfl (bif_lift (f := (S.rwrong_gk c k)) rfl (bif_lift (f := (S.rwrong_gk c k)) rfl rfl)))))))))))))))))))) (bif_lift (f := (S.rwrong_gk c k)) (bif_lift (f := (S.rwrong_gk c k)) rfl (bif_lift (f := (S.rwrong_gk c k)) rfl (bif_lift (f := (S.rwrong_gk c k)) rfl (bif_lift (f := (S.rwrong_gk c k)) rfl (bif_lift (f := (S.rwrong_gk c k)) rfl (bif_lift (f := (S.rwrong_gk c k)) rfl (bif_lift (f := (S.rwrong_gk c k)) rfl (bif_lift (f := (S.rwrong_gk c k)) rfl (bif_lift (f := (S.rwrong_gk c k)) rfl (bif_lift (f := (S.rwrong_gk c k)) rfl (bif_lift (f := (S.rwrong_gk c k)) rfl (bif_lift (f := (S.rwrong_gk c k)) rfl (bif_lift (f := (S.rwrong_gk c k)) rfl (bif_lift (f := (S.rwrong_gk c k)) rfl (bif_lift (f := (S.rwrong_gk c k)) rfl (bif_lift (f := (S.rwrong_gk c k)) rfl (bif_lift (f := (S.rwrong_gk c k)) rfl (bif_lift (f := (S.rwrong_gk c k)) rfl (bif_lift (f := (S.rwrong_gk c k)) rfl rfl))))))))))))))))))) (bif_lift (f := (S.rwrong_gk c k)) rfl (bif_lift (f := (S.rwrong_gk c k)) rfl (bif_lift (f := (S.rwrong_gk c k)) rfl (bif_lift (f := (S.rwrong_gk c k)) rfl (bif_lift (f := (S.rwrong_gk c k)) rfl (bif_lift (f := (S.rwrong_gk c k)) rfl (bif_lift (f := (S.rwrong_gk c k)) rfl (bif_lift (f := (S.rwrong_gk c k)) rfl (bif_lift (f := (S.rwrong_gk c k)) rfl (bif_lift (f := (S.rwrong_gk c k)) rfl (bif_lift (f := (S.rwrong_gk c k)) rfl (bif_lift (f := (S.rwrong_gk c k)) rfl (bif_lift (f := (S.rwrong_gk c k)) rfl (bif_lift (f := (S.rwrong_gk c k)) rfl (bif_lift (f := (S.rwrong_gk c k)) rfl (bif_lift (f := (S.rwrong_gk c k)) rfl (bif_lift (f := (S.rwrong_gk c k)) rfl (bif_lift (f := (S.rwrong_gk c k)) rfl (bif_lift (f := (S.rwrong_gk c k)) rfl (bif_lift (f := (S.rwrong_gk c k)) rfl rfl)))))))))))))))))))))) (bif_lift (f := (S.rwrong_gk c k)) (bif_lift (f := (S.rwrong_gk c k)) (bif_lift (f := (S.rwrong_gk c k)) rfl (bif_lift (f := (S.rwrong_gk c k)) rfl (bif_lift (f := (S.rwrong_gk c k)) rfl (bif_lift (f := (S.rwrong_gk c k)) rfl (bif_lift (f := (S.rwrong_gk c k)) rfl (bif_lift (f := (S.rwrong_gk c k)) rfl (bif_lift (f := (S.rwrong_gk c k)) rfl (bif_lift (f := (S.rwrong_gk c k)) rfl (bif_lift (f := (S.rwrong_gk c k)) rfl (bif_lift (f := (S.rwrong_gk c k)) rfl (bif_lift (f := (S.rwrong_gk c k)) rfl (bif_lift (f := (S.rwrong_gk c k)) rfl (bif_lift (f := (S.rwrong_gk c k)) rfl (bif_lift (f := (S.rwrong_gk c k)) rfl (bif_lift (f := (S.rwrong_gk c k)) rfl (bif_lift (f := (S.rwrong_gk c k)) rfl (bif_lift (f := (S.rwrong_gk c k)) rfl (bif_lift (f := (S.rwrong_gk c k)) rfl rfl)))))))))))))))))) (bif_lift (f := (S.rwrong_gk c k)) rfl (bif_lift (f := (S.rwrong_gk c k)) rfl (bif_lift (f := (S.rwrong_gk c k)) rfl (bif_lift (f := (S.rwrong_gk c k)) rfl (bif_lift (f := (S.rwrong_gk c k)) rfl (bif_lift (f := (S.rwrong_gk c k)) rfl (bif_lift (f := (S.rwrong_gk c k)) rfl (bif_lift (f := (S.rwrong_gk c k)) rfl (bif_lift (f := (S.rwrong_gk c k)) rfl (bif_lift (f := (S.rwrong_gk c k)) rfl (bif_lift (f := (S.rwrong_gk c k)) rfl (bif_lift (f := (S.rwrong_gk c k)) rfl (bif_lift (f := (S.rwrong_gk c k)) rfl (bif_lift (f := (S.rwrong_gk c k)) rfl (bif_lift (f := (S.rwrong_gk c k)) rfl (bif_lift (f := (S.rwrong_gk c k)) rfl (bif_lift (f := (S.rwrong_gk c k)) rfl (bif_lift (f := (S.rwrong_gk c k)) rfl (bif_lift (f := (S.rwrong_gk c k)) rfl rfl)))))))))))))))))))) (bif_lift (f := (S.rwrong_gk c k)) (bif_lift (f := (S.rwrong_gk c k)) rfl (bif_lift (f := (S.rwrong_gk c k)) rfl (bif_lift (f := (S.rwrong_gk c k)) rfl (bif_lift (f := (S.rwrong_gk c k)) rfl (bif_lift (f := (S.rwrong_gk c k)) rfl (bif_lift (f := (S.rwrong_gk c k)) rfl (bif_lift (f := (S.rwrong_gk c k)) rfl (bif_lift (f := (S.rwrong_gk c k)) rfl (bif_lift (f := (S.rwrong_gk c k)) rfl (bif_lift (f := (S.rwrong_gk c k)) rfl (bif_lift (f := (S.rwrong_gk c k)) rfl (bif_lift (f := (S.rwrong_gk c k)) rfl (bif_lift (f := (S.rwrong_gk c k)) rfl (bif_lift (f := (S.rwrong_gk c k)) rfl (bif_lift (f := (S.rwrong_gk c k)) rfl (bif_lift (f := (S.rwrong_gk c k)) rfl (bif_lift (f := (S.rwrong_gk c k)) rfl (bif_lift (f := (S.rwrong_gk c k)) rfl (bif_lift (f := (S.rwrong_gk c k)) rfl rfl))))))))))))))))))) (bif_lift (f := (S.rwrong_gk c k)) rfl (bif_lift (f := (S.rwrong_gk c k)) rfl (bif_lift (f := (S.rwrong_gk c k)) rfl (bif_lift (f := (S.rwrong_gk c k)) rfl (bif_lift (f := (S.rwrong_gk c k)) rfl (bif_lift (f := (S.rwrong_gk c k)) rfl (bif_lift (f := (S.rwrong_gk c k)) rfl (bif_lift (f := (S.rwrong_gk c k)) rfl (bif_lift (f := (S.rwrong_gk c k)) rfl (bif_lift (f := (S.rwrong_gk c k)) rfl (bif_lift (f := (S.rwrong_gk c k)) rfl (bif_lift (f := (S.rwrong_gk c k)) rfl (bif_lift (f := (S.rwrong_gk c k)) rfl (bif_lift (f := (S.rwrong_gk c k)) rfl (bif_lift (f := (S.rwrong_gk c k)) rfl (bif_lift (f := (S.rwrong_gk c k)) rfl (bif_lift (f := (S.rwrong_gk c k)) rfl (bif_lift (f := (S.rwrong_gk c k)) rfl (bif_lift (f := (S.rwrong_gk c k)) rfl (bif_lift (f := (S.rwrong_gk c k)) rfl rfl)))))))))))))))))))))))
noncomputable def H70 : Hnd := fun R args σ k => match args, σ with
  | [.agg [.int .i64 target_, .int .i64 util_, .int .i64 stable_, .int .i64 panic_, .int .i64 grain_, .int .i64 threshold_, .int .i64 up_, .int .i64 down_, .int .i64 min_, .int .i64 max_, .int .i64 initial_, .int .i64 grace_, .int .i64 delay_, .int .i64 burst_, .int .i64 limit_, .int .i64 queue_, .int .i64 timeout_, .int .i64 ready_, .int .i64 subset_, .int .i64 sample_]], [] => k (.str (S.rwrong ⟨target_, util_, stable_, panic_, grain_, threshold_, up_, down_, min_, max_, initial_, grace_, delay_, burst_, limit_, queue_, timeout_, ready_, subset_, sample_⟩)) []
  | _, _ => none
theorem H70_ok : HndOk Tryz.prog 70 H70 := hnd_ok tis tisOk mixOk G101_ok F70 Tryz.func70 rfl (by
  intro R args σ k r h
  unfold H70 at h
  split at h
  · rename_i target_ util_ stable_ panic_ grain_ threshold_ up_ down_ min_ max_ initial_ grace_ delay_ burst_ limit_ queue_ timeout_ ready_ subset_ sample_; exact ⟨40, (S.rwrong_v ⟨target_, util_, stable_, panic_, grain_, threshold_, up_, down_, min_, max_, initial_, grace_, delay_, burst_, limit_, queue_, timeout_, ready_, subset_, sample_⟩ _).trans h⟩
  · cases h)
noncomputable def G70 : Env := Env.add 70 H70 G101
theorem G70_ok : EnvOk Tryz.prog G70 := envAdd_ok H70_ok G101_ok

/-! spinnakerref1.May -/
def F30 : FCfg := ⟨keepAt [(0, [1]), (1, [2])], loopAt [], []⟩
noncomputable def S.rmay_L {R : Type} (c : Cf) (k : AVal → List Blk → Option R) : Option R := fnEval tis F30 0 G70 Tryz.f30 [.agg (cfA c)] [] k
noncomputable def S.rmay (c : Cf) : Bool :=
  (Array.toList (ByteArray.data (S.rwrong c)) == Array.toList (ByteArray.data (bs [])))
theorem S.rmay_v {R : Type} (c : Cf) (k : AVal → List Blk → Option R) : S.rmay_L c k = k (.bool (S.rmay c)) [] :=
  Eq.trans (b := (k (.bool (Array.toList (ByteArray.data (S.rwrong c)) == Array.toList (ByteArray.data (bs [])))) ([]))) (by kernel_rfl) rfl
noncomputable def H30 : Hnd := fun R args σ k => match args, σ with
  | [.agg [.int .i64 target_, .int .i64 util_, .int .i64 stable_, .int .i64 panic_, .int .i64 grain_, .int .i64 threshold_, .int .i64 up_, .int .i64 down_, .int .i64 min_, .int .i64 max_, .int .i64 initial_, .int .i64 grace_, .int .i64 delay_, .int .i64 burst_, .int .i64 limit_, .int .i64 queue_, .int .i64 timeout_, .int .i64 ready_, .int .i64 subset_, .int .i64 sample_]], [] => k (.bool (S.rmay ⟨target_, util_, stable_, panic_, grain_, threshold_, up_, down_, min_, max_, initial_, grace_, delay_, burst_, limit_, queue_, timeout_, ready_, subset_, sample_⟩)) []
  | _, _ => none
theorem H30_ok : HndOk Tryz.prog 30 H30 := hnd_ok tis tisOk mixOk G70_ok F30 Tryz.func30 rfl (by
  intro R args σ k r h
  unfold H30 at h
  split at h
  · rename_i target_ util_ stable_ panic_ grain_ threshold_ up_ down_ min_ max_ initial_ grace_ delay_ burst_ limit_ queue_ timeout_ ready_ subset_ sample_; exact ⟨0, (S.rmay_v ⟨target_, util_, stable_, panic_, grain_, threshold_, up_, down_, min_, max_, initial_, grace_, delay_, burst_, limit_, queue_, timeout_, ready_, subset_, sample_⟩ _).trans h⟩
  · cases h)
noncomputable def G30 : Env := Env.add 30 H30 G70
theorem G30_ok : EnvOk Tryz.prog G30 := envAdd_ok H30_ok G70_ok

/-! spinnakerref1.Default -/
def F26 : FCfg := ⟨keepAt [(0, [0]), (1, [0])], loopAt [], []⟩
noncomputable def S.dflt_L {R : Type}  (k : AVal → List Blk → Option R) : Option R := fnEval tis F26 0 G30 Tryz.f26 [] [] k
noncomputable def S.dflt  : Int × Int × Int × Int × Int × Int × Int × Int × Int × Int × Int × Int × Int × Int × Int × Int × Int × Int × Int × Int :=
  (10000, 700, 60, 6, 1, 2000, 10000, 2000, 0, 0, 1, 30, 0, 20000, 10, 100, 60, 3, 0, 0)
theorem S.dflt_v {R : Type}  (k : AVal → List Blk → Option R) : S.dflt_L k = k (.agg [(.int .i64 (S.dflt).1), (.int .i64 (S.dflt).2.1), (.int .i64 (S.dflt).2.2.1), (.int .i64 (S.dflt).2.2.2.1), (.int .i64 (S.dflt).2.2.2.2.1), (.int .i64 (S.dflt).2.2.2.2.2.1), (.int .i64 (S.dflt).2.2.2.2.2.2.1), (.int .i64 (S.dflt).2.2.2.2.2.2.2.1), (.int .i64 (S.dflt).2.2.2.2.2.2.2.2.1), (.int .i64 (S.dflt).2.2.2.2.2.2.2.2.2.1), (.int .i64 (S.dflt).2.2.2.2.2.2.2.2.2.2.1), (.int .i64 (S.dflt).2.2.2.2.2.2.2.2.2.2.2.1), (.int .i64 (S.dflt).2.2.2.2.2.2.2.2.2.2.2.2.1), (.int .i64 (S.dflt).2.2.2.2.2.2.2.2.2.2.2.2.2.1), (.int .i64 (S.dflt).2.2.2.2.2.2.2.2.2.2.2.2.2.2.1), (.int .i64 (S.dflt).2.2.2.2.2.2.2.2.2.2.2.2.2.2.2.1), (.int .i64 (S.dflt).2.2.2.2.2.2.2.2.2.2.2.2.2.2.2.2.1), (.int .i64 (S.dflt).2.2.2.2.2.2.2.2.2.2.2.2.2.2.2.2.2.1), (.int .i64 (S.dflt).2.2.2.2.2.2.2.2.2.2.2.2.2.2.2.2.2.2.1), (.int .i64 (S.dflt).2.2.2.2.2.2.2.2.2.2.2.2.2.2.2.2.2.2.2)]) [] :=
  Eq.trans (b := (k (.agg [.int .i64 10000, .int .i64 700, .int .i64 60, .int .i64 6, .int .i64 1, .int .i64 2000, .int .i64 10000, .int .i64 2000, .int .i64 0, .int .i64 0, .int .i64 1, .int .i64 30, .int .i64 0, .int .i64 20000, .int .i64 10, .int .i64 100, .int .i64 60, .int .i64 3, .int .i64 0, .int .i64 0]) ([]))) (by kernel_rfl) rfl
noncomputable def H26 : Hnd := fun R args σ k => match args, σ with
  | [], [] => k (.agg [(.int .i64 (S.dflt).1), (.int .i64 (S.dflt).2.1), (.int .i64 (S.dflt).2.2.1), (.int .i64 (S.dflt).2.2.2.1), (.int .i64 (S.dflt).2.2.2.2.1), (.int .i64 (S.dflt).2.2.2.2.2.1), (.int .i64 (S.dflt).2.2.2.2.2.2.1), (.int .i64 (S.dflt).2.2.2.2.2.2.2.1), (.int .i64 (S.dflt).2.2.2.2.2.2.2.2.1), (.int .i64 (S.dflt).2.2.2.2.2.2.2.2.2.1), (.int .i64 (S.dflt).2.2.2.2.2.2.2.2.2.2.1), (.int .i64 (S.dflt).2.2.2.2.2.2.2.2.2.2.2.1), (.int .i64 (S.dflt).2.2.2.2.2.2.2.2.2.2.2.2.1), (.int .i64 (S.dflt).2.2.2.2.2.2.2.2.2.2.2.2.2.1), (.int .i64 (S.dflt).2.2.2.2.2.2.2.2.2.2.2.2.2.2.1), (.int .i64 (S.dflt).2.2.2.2.2.2.2.2.2.2.2.2.2.2.2.1), (.int .i64 (S.dflt).2.2.2.2.2.2.2.2.2.2.2.2.2.2.2.2.1), (.int .i64 (S.dflt).2.2.2.2.2.2.2.2.2.2.2.2.2.2.2.2.2.1), (.int .i64 (S.dflt).2.2.2.2.2.2.2.2.2.2.2.2.2.2.2.2.2.2.1), (.int .i64 (S.dflt).2.2.2.2.2.2.2.2.2.2.2.2.2.2.2.2.2.2.2)]) []
  | _, _ => none
theorem H26_ok : HndOk Tryz.prog 26 H26 := hnd_ok tis tisOk mixOk G30_ok F26 Tryz.func26 rfl (by
  intro R args σ k r h
  unfold H26 at h
  split at h
  · exact ⟨0, (S.dflt_v _).trans h⟩
  · cases h)
noncomputable def G26 : Env := Env.add 26 H26 G30
theorem G26_ok : EnvOk Tryz.prog G26 := envAdd_ok H26_ok G30_ok

/-! spinnakerref1.Per -/
def F72 : FCfg := ⟨keepAt [(0, [1]), (1, [3]), (2, [2])], loopAt [], []⟩
noncomputable def S.rper_L {R : Type} (c : Cf) (k : AVal → List Blk → Option R) : Option R := fnEval tis F72 0 G26 Tryz.f72 [.agg (cfA c)] [] k
noncomputable def S.rper (c : Cf) : Int :=
  (if 1 > Prod.fst (S.rmul c.target c.util) then 1 else Prod.fst (S.rmul c.target c.util))
theorem S.rper_v {R : Type} (c : Cf) (k : AVal → List Blk → Option R) : S.rper_L c k = k (.int .i64 (S.rper c)) [] :=
  Eq.trans (b := (k (.int .i64 (if 1 > Prod.fst (S.rmul c.target c.util) then 1 else Prod.fst (S.rmul c.target c.util))) ([]))) (by kernel_rfl) rfl
noncomputable def H72 : Hnd := fun R args σ k => match args, σ with
  | [.agg [.int .i64 target_, .int .i64 util_, .int .i64 stable_, .int .i64 panic_, .int .i64 grain_, .int .i64 threshold_, .int .i64 up_, .int .i64 down_, .int .i64 min_, .int .i64 max_, .int .i64 initial_, .int .i64 grace_, .int .i64 delay_, .int .i64 burst_, .int .i64 limit_, .int .i64 queue_, .int .i64 timeout_, .int .i64 ready_, .int .i64 subset_, .int .i64 sample_]], [] => k (.int .i64 (S.rper ⟨target_, util_, stable_, panic_, grain_, threshold_, up_, down_, min_, max_, initial_, grace_, delay_, burst_, limit_, queue_, timeout_, ready_, subset_, sample_⟩)) []
  | _, _ => none
theorem H72_ok : HndOk Tryz.prog 72 H72 := hnd_ok tis tisOk mixOk G26_ok F72 Tryz.func72 rfl (by
  intro R args σ k r h
  unfold H72 at h
  split at h
  · rename_i target_ util_ stable_ panic_ grain_ threshold_ up_ down_ min_ max_ initial_ grace_ delay_ burst_ limit_ queue_ timeout_ ready_ subset_ sample_; exact ⟨0, (S.rper_v ⟨target_, util_, stable_, panic_, grain_, threshold_, up_, down_, min_, max_, initial_, grace_, delay_, burst_, limit_, queue_, timeout_, ready_, subset_, sample_⟩ _).trans h⟩
  · cases h)
noncomputable def G72 : Env := Env.add 72 H72 G26
theorem G72_ok : EnvOk Tryz.prog G72 := envAdd_ok H72_ok G26_ok

/-! spinnakerref1.Most -/
def F32 : FCfg := ⟨keepAt [(0, [1]), (1, [1, 5]), (2, [2]), (3, [2])], loopAt [], []⟩
noncomputable def S.rcmost_L {R : Type} (c : Cf) (k : AVal → List Blk → Option R) : Option R := fnEval tis F32 0 G72 Tryz.f32 [.agg (cfA c)] [] k
noncomputable def S.rcmost_gk {R : Type} (c : Cf) (k : AVal → List Blk → Option R) : (Int) → Option R := (fun v : Int => k (.int .i64 v) [])
noncomputable def S.rcmost (c : Cf) : Int :=
  bif decide (c.max = 0) then
   (100)
 else
   (c.max)
theorem S.rcmost_v {R : Type} (c : Cf) (k : AVal → List Blk → Option R) : S.rcmost_L c k = (S.rcmost_gk c k) (S.rcmost c) :=
  Eq.trans (b := (bif decide (c.max = 0) then
   (S.rcmost_gk c k) (100)
 else
   (S.rcmost_gk c k) (c.max))) (by kernel_rfl) (bif_lift (f := (S.rcmost_gk c k)) rfl rfl)
noncomputable def H32 : Hnd := fun R args σ k => match args, σ with
  | [.agg [.int .i64 target_, .int .i64 util_, .int .i64 stable_, .int .i64 panic_, .int .i64 grain_, .int .i64 threshold_, .int .i64 up_, .int .i64 down_, .int .i64 min_, .int .i64 max_, .int .i64 initial_, .int .i64 grace_, .int .i64 delay_, .int .i64 burst_, .int .i64 limit_, .int .i64 queue_, .int .i64 timeout_, .int .i64 ready_, .int .i64 subset_, .int .i64 sample_]], [] => k (.int .i64 (S.rcmost ⟨target_, util_, stable_, panic_, grain_, threshold_, up_, down_, min_, max_, initial_, grace_, delay_, burst_, limit_, queue_, timeout_, ready_, subset_, sample_⟩)) []
  | _, _ => none
theorem H32_ok : HndOk Tryz.prog 32 H32 := hnd_ok tis tisOk mixOk G72_ok F32 Tryz.func32 rfl (by
  intro R args σ k r h
  unfold H32 at h
  split at h
  · rename_i target_ util_ stable_ panic_ grain_ threshold_ up_ down_ min_ max_ initial_ grace_ delay_ burst_ limit_ queue_ timeout_ ready_ subset_ sample_; exact ⟨0, (S.rcmost_v ⟨target_, util_, stable_, panic_, grain_, threshold_, up_, down_, min_, max_, initial_, grace_, delay_, burst_, limit_, queue_, timeout_, ready_, subset_, sample_⟩ _).trans h⟩
  · cases h)
noncomputable def G32 : Env := Env.add 32 H32 G72
theorem G32_ok : EnvOk Tryz.prog G32 := envAdd_ok H32_ok G72_ok

/-! conf.Per -/
def F68 : FCfg := ⟨keepAt [(0, [1]), (1, [3]), (2, [2])], loopAt [], []⟩
noncomputable def S.per_L {R : Type} (c : Cf) (k : AVal → List Blk → Option R) : Option R := fnEval tis F68 0 G32 Tryz.f68 [.agg (cfA c)] [] k
noncomputable def S.per_gk {R : Type} (c : Cf) (k : AVal → List Blk → Option R) : (Int) → Option R := (fun v : Int => k (.int .i64 v) [])
noncomputable def S.per (c : Cf) : Option (Int) :=
  (optK (S.mmul c.target c.util) fun o2 =>
   some (if 1 > o2.1 then 1 else o2.1))
theorem S.per_v {R : Type} (c : Cf) (k : AVal → List Blk → Option R) : S.per_L c k = oK (S.per_gk c k) (S.per c) :=
  Eq.trans (b := ((optK (S.mmul c.target c.util) fun o2 =>
   (S.per_gk c k) (if 1 > o2.1 then 1 else o2.1)))) (by kernel_rfl) (opt_lift fun o2 => rfl)
noncomputable def H68 : Hnd := fun R args σ k => match args, σ with
  | [.agg [.int .i64 target_, .int .i64 util_, .int .i64 stable_, .int .i64 panic_, .int .i64 grain_, .int .i64 threshold_, .int .i64 up_, .int .i64 down_, .int .i64 min_, .int .i64 max_, .int .i64 initial_, .int .i64 grace_, .int .i64 delay_, .int .i64 burst_, .int .i64 limit_, .int .i64 queue_, .int .i64 timeout_, .int .i64 ready_, .int .i64 subset_, .int .i64 sample_]], [] => oK (fun v : Int => k (.int .i64 v) []) (S.per ⟨target_, util_, stable_, panic_, grain_, threshold_, up_, down_, min_, max_, initial_, grace_, delay_, burst_, limit_, queue_, timeout_, ready_, subset_, sample_⟩)
  | _, _ => none
theorem H68_ok : HndOk Tryz.prog 68 H68 := hnd_ok tis tisOk mixOk G32_ok F68 Tryz.func68 rfl (by
  intro R args σ k r h
  unfold H68 at h
  split at h
  · rename_i target_ util_ stable_ panic_ grain_ threshold_ up_ down_ min_ max_ initial_ grace_ delay_ burst_ limit_ queue_ timeout_ ready_ subset_ sample_; exact ⟨0, (S.per_v ⟨target_, util_, stable_, panic_, grain_, threshold_, up_, down_, min_, max_, initial_, grace_, delay_, burst_, limit_, queue_, timeout_, ready_, subset_, sample_⟩ _).trans h⟩
  · cases h)
noncomputable def G68 : Env := Env.add 68 H68 G32
theorem G68_ok : EnvOk Tryz.prog G68 := envAdd_ok H68_ok G32_ok

/-! conf.Most -/
def F29 : FCfg := ⟨keepAt [(0, [1]), (1, [1, 5]), (2, [2]), (3, [2])], loopAt [], []⟩
noncomputable def S.cmost_L {R : Type} (c : Cf) (k : AVal → List Blk → Option R) : Option R := fnEval tis F29 0 G68 Tryz.f29 [.agg (cfA c)] [] k
noncomputable def S.cmost_gk {R : Type} (c : Cf) (k : AVal → List Blk → Option R) : (Int) → Option R := (fun v : Int => k (.int .i64 v) [])
noncomputable def S.cmost (c : Cf) : Int :=
  bif decide (c.max = 0) then
   (100)
 else
   (c.max)
theorem S.cmost_v {R : Type} (c : Cf) (k : AVal → List Blk → Option R) : S.cmost_L c k = (S.cmost_gk c k) (S.cmost c) :=
  Eq.trans (b := (bif decide (c.max = 0) then
   (S.cmost_gk c k) (100)
 else
   (S.cmost_gk c k) (c.max))) (by kernel_rfl) (bif_lift (f := (S.cmost_gk c k)) rfl rfl)
noncomputable def H29 : Hnd := fun R args σ k => match args, σ with
  | [.agg [.int .i64 target_, .int .i64 util_, .int .i64 stable_, .int .i64 panic_, .int .i64 grain_, .int .i64 threshold_, .int .i64 up_, .int .i64 down_, .int .i64 min_, .int .i64 max_, .int .i64 initial_, .int .i64 grace_, .int .i64 delay_, .int .i64 burst_, .int .i64 limit_, .int .i64 queue_, .int .i64 timeout_, .int .i64 ready_, .int .i64 subset_, .int .i64 sample_]], [] => k (.int .i64 (S.cmost ⟨target_, util_, stable_, panic_, grain_, threshold_, up_, down_, min_, max_, initial_, grace_, delay_, burst_, limit_, queue_, timeout_, ready_, subset_, sample_⟩)) []
  | _, _ => none
theorem H29_ok : HndOk Tryz.prog 29 H29 := hnd_ok tis tisOk mixOk G68_ok F29 Tryz.func29 rfl (by
  intro R args σ k r h
  unfold H29 at h
  split at h
  · rename_i target_ util_ stable_ panic_ grain_ threshold_ up_ down_ min_ max_ initial_ grace_ delay_ burst_ limit_ queue_ timeout_ ready_ subset_ sample_; exact ⟨0, (S.cmost_v ⟨target_, util_, stable_, panic_, grain_, threshold_, up_, down_, min_, max_, initial_, grace_, delay_, burst_, limit_, queue_, timeout_, ready_, subset_, sample_⟩ _).trans h⟩
  · cases h)
noncomputable def G29 : Env := Env.add 29 H29 G68
theorem G29_ok : EnvOk Tryz.prog G29 := envAdd_ok H29_ok G68_ok
end Go.Proofs.YtdgipcjigbagfaaGreat.AB
