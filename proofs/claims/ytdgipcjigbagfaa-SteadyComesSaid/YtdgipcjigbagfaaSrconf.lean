/- The document's functions of the settings, as plain functions. -/
import Derived.Test.YtdgipcjigbagfaaSconf
namespace Go.Proofs.Ytdgipcjigbagfaa.AB
set_option linter.unusedVariables false

/-! spinnakerref1.in -/
def F55 : FCfg := ⟨keepAt [(0, [0, 1, 2]), (1, [6])], loopAt [], []⟩
theorem S.rin_k {R : Type} (n lo hi : Int) (k : AVal → List Blk → Option R) : fnEval tis F55 0 G30 Try.f55 [.int .i64 n, .int .i64 lo, .int .i64 hi] [] k =
  (bif decide (lo ≤ n) then
   k (.bool (decide (n ≤ hi))) ([])
 else
   k (.bool false) ([])) := by kernel_rfl
noncomputable def S.rin (n lo hi : Int) : Bool :=
  bif decide (lo ≤ n) then
   (decide (n ≤ hi))
 else
   (false)
noncomputable def S.rin_gk {R : Type} (n lo hi : Int) (k : AVal → List Blk → Option R) : (Bool) → Option R := (fun v : Bool => k (.bool v) [])
theorem S.rin_v {R : Type} (n lo hi : Int) (k : AVal → List Blk → Option R) : fnEval tis F55 0 G30 Try.f55 [.int .i64 n, .int .i64 lo, .int .i64 hi] [] k = k (.bool (S.rin n lo hi)) [] :=
  (S.rin_k n lo hi k).trans (bif_lift (f := (S.rin_gk n lo hi k)) rfl rfl)
noncomputable def H55 : Hnd := fun R args σ k => match args, σ with
  | [.int .i64 n, .int .i64 lo, .int .i64 hi], [] => k (.bool (S.rin n lo hi)) []
  | _, _ => none
theorem H55_ok : HndOk Try.prog 55 H55 := hnd_ok tis tisOk mixOk G30_ok F55 Try.func55 rfl (by
  intro R args σ k r h
  unfold H55 at h
  split at h
  · rename_i n lo hi; exact ⟨0, (S.rin_v n lo hi _).trans h⟩
  · cases h)
noncomputable def G55 : Env := Env.add 55 H55 G30
theorem G55_ok : EnvOk Try.prog G55 := envAdd_ok H55_ok G30_ok

/-! spinnakerref1.Values -/
def F54 : FCfg := ⟨keepAt [(0, [1]), (1, [2])], loopAt [], []⟩
theorem S.rvalues_k {R : Type} (c : Cf) (k : AVal → List Blk → Option R) : fnEval tis F54 0 G55 Try.f54 [.agg (cfA c)] [] k =
  (k (.slice 1 0 0 20 Option.none) ([.rows (Cd.int .i64) [c.target, c.util, c.stable, c.panic, c.grain, c.threshold, c.up, c.down, c.min, c.max, c.initial, c.grace, c.delay, c.burst, c.limit, c.queue, c.timeout, c.ready, c.subset, c.sample] false])) := by kernel_rfl
noncomputable def S.rvalues (c : Cf) : List Int :=
  ([c.target, c.util, c.stable, c.panic, c.grain, c.threshold, c.up, c.down, c.min, c.max, c.initial, c.grace, c.delay, c.burst, c.limit, c.queue, c.timeout, c.ready, c.subset, c.sample])
theorem S.rvalues_v {R : Type} (c : Cf) (k : AVal → List Blk → Option R) : fnEval tis F54 0 G55 Try.f54 [.agg (cfA c)] [] k = k (.slice 1 0 (0) (20) none) [(.rows (Cd.int .i64) (S.rvalues c) false)] :=
  (S.rvalues_k c k).trans rfl
noncomputable def H54 : Hnd := fun R args σ k => match args, σ with
  | [.agg [.int .i64 target_, .int .i64 util_, .int .i64 stable_, .int .i64 panic_, .int .i64 grain_, .int .i64 threshold_, .int .i64 up_, .int .i64 down_, .int .i64 min_, .int .i64 max_, .int .i64 initial_, .int .i64 grace_, .int .i64 delay_, .int .i64 burst_, .int .i64 limit_, .int .i64 queue_, .int .i64 timeout_, .int .i64 ready_, .int .i64 subset_, .int .i64 sample_]], [] => k (.slice 1 0 (0) (20) none) [(.rows (Cd.int .i64) (S.rvalues ⟨target_, util_, stable_, panic_, grain_, threshold_, up_, down_, min_, max_, initial_, grace_, delay_, burst_, limit_, queue_, timeout_, ready_, subset_, sample_⟩) false)]
  | _, _ => none
theorem H54_ok : HndOk Try.prog 54 H54 := hnd_ok tis tisOk mixOk G55_ok F54 Try.func54 rfl (by
  intro R args σ k r h
  unfold H54 at h
  split at h
  · rename_i target_ util_ stable_ panic_ grain_ threshold_ up_ down_ min_ max_ initial_ grace_ delay_ burst_ limit_ queue_ timeout_ ready_ subset_ sample_; exact ⟨0, (S.rvalues_v ⟨target_, util_, stable_, panic_, grain_, threshold_, up_, down_, min_, max_, initial_, grace_, delay_, burst_, limit_, queue_, timeout_, ready_, subset_, sample_⟩ _).trans h⟩
  · cases h)
noncomputable def G54 : Env := Env.add 54 H54 G55
theorem G54_ok : EnvOk Try.prog G54 := envAdd_ok H54_ok G55_ok

/-! spinnakerref1.Names -/
def F56 : FCfg := ⟨keepAt [(0, []), (1, [0])], loopAt [], []⟩
theorem S.rnames_k {R : Type}  (k : AVal → List Blk → Option R) : fnEval tis F56 0 G54 Try.f56 [] [] k =
  (k (.slice 1 0 0 20 Option.none) ([.rows Cd.str [bs [116, 97, 114, 103, 101, 116], bs [117, 116, 105, 108], bs [115, 116, 97, 98, 108, 101], bs [112, 97, 110, 105, 99], bs [103, 114, 97, 105, 110], bs [116, 104, 114, 101, 115, 104, 111, 108, 100], bs [117, 112], bs [100, 111, 119, 110], bs [109, 105, 110], bs [109, 97, 120], bs [105, 110, 105, 116, 105, 97, 108], bs [103, 114, 97, 99, 101], bs [100, 101, 108, 97, 121], bs [98, 117, 114, 115, 116], bs [108, 105, 109, 105, 116], bs [113, 117, 101, 117, 101], bs [116, 105, 109, 101, 111, 117, 116], bs [114, 101, 97, 100, 121], bs [115, 117, 98, 115, 101, 116], bs [115, 97, 109, 112, 108, 101]] false])) := by kernel_rfl
noncomputable def S.rnames  : List ByteArray :=
  ([bs [116, 97, 114, 103, 101, 116], bs [117, 116, 105, 108], bs [115, 116, 97, 98, 108, 101], bs [112, 97, 110, 105, 99], bs [103, 114, 97, 105, 110], bs [116, 104, 114, 101, 115, 104, 111, 108, 100], bs [117, 112], bs [100, 111, 119, 110], bs [109, 105, 110], bs [109, 97, 120], bs [105, 110, 105, 116, 105, 97, 108], bs [103, 114, 97, 99, 101], bs [100, 101, 108, 97, 121], bs [98, 117, 114, 115, 116], bs [108, 105, 109, 105, 116], bs [113, 117, 101, 117, 101], bs [116, 105, 109, 101, 111, 117, 116], bs [114, 101, 97, 100, 121], bs [115, 117, 98, 115, 101, 116], bs [115, 97, 109, 112, 108, 101]])
theorem S.rnames_v {R : Type}  (k : AVal → List Blk → Option R) : fnEval tis F56 0 G54 Try.f56 [] [] k = k (.slice 1 0 (0) (20) none) [(.rows (Cd.str) (S.rnames) false)] :=
  (S.rnames_k k).trans rfl
noncomputable def H56 : Hnd := fun R args σ k => match args, σ with
  | [], [] => k (.slice 1 0 (0) (20) none) [(.rows (Cd.str) (S.rnames) false)]
  | _, _ => none
theorem H56_ok : HndOk Try.prog 56 H56 := hnd_ok tis tisOk mixOk G54_ok F56 Try.func56 rfl (by
  intro R args σ k r h
  unfold H56 at h
  split at h
  · exact ⟨0, (S.rnames_v _).trans h⟩
  · cases h)
noncomputable def G56 : Env := Env.add 56 H56 G54
theorem G56_ok : EnvOk Try.prog G56 := envAdd_ok H56_ok G54_ok

/-! spinnakerref1.Wrong -/
def F28 : FCfg := ⟨keepAt [(0, [1]), (1, [1, 3]), (2, [1, 3, 4]), (3, [1, 3, 4, 11]), (4, [3, 4]), (5, [5]), (6, [5, 6]), (7, [5, 6, 121]), (8, [5, 6]), (9, [5, 6, 128]), (10, [2]), (11, [2])], loopAt [(7, [5, 6], [])], []⟩
theorem S.rwrong_k {R : Type} (c : Cf) (k : AVal → List Blk → Option R) : fnEval tis F28 40 G56 Try.f28 [.agg (cfA c)] [] k =
  (bif decide (0 < c.max) then
   bif decide (c.max = 0) then
   bif decide (c.burst = -1000) then
   bif !S.rin c.target 10 1000000 then
   k (.str (bs [116, 97, 114, 103, 101, 116])) ([])
 else
   bif !S.rin c.util 100 1000 then
   k (.str (bs [117, 116, 105, 108])) ([])
 else
   bif !S.rin c.stable 6 600 then
   k (.str (bs [115, 116, 97, 98, 108, 101])) ([])
 else
   bif !S.rin c.panic 1 c.stable then
   k (.str (bs [112, 97, 110, 105, 99])) ([])
 else
   bif !S.rin c.grain 1 c.panic then
   k (.str (bs [103, 114, 97, 105, 110])) ([])
 else
   bif !S.rin c.threshold 1100 10000 then
   k (.str (bs [116, 104, 114, 101, 115, 104, 111, 108, 100])) ([])
 else
   bif !S.rin c.up 1001 1000000 then
   k (.str (bs [117, 112])) ([])
 else
   bif !S.rin c.down 1001 1000000 then
   k (.str (bs [100, 111, 119, 110])) ([])
 else
   bif !S.rin c.min 0 100 then
   k (.str (bs [109, 105, 110])) ([])
 else
   bif !S.rin c.initial 0 c.max then
   k (.str (bs [105, 110, 105, 116, 105, 97, 108])) ([])
 else
   bif !S.rin c.grace 0 600 then
   k (.str (bs [103, 114, 97, 99, 101])) ([])
 else
   bif !S.rin c.delay 0 600 then
   k (.str (bs [100, 101, 108, 97, 121])) ([])
 else
   bif !S.rin c.limit 1 1000 then
   k (.str (bs [108, 105, 109, 105, 116])) ([])
 else
   bif !S.rin c.queue 0 200 then
   k (.str (bs [113, 117, 101, 117, 101])) ([])
 else
   bif !S.rin c.timeout 1 10000 then
   k (.str (bs [116, 105, 109, 101, 111, 117, 116])) ([])
 else
   bif !S.rin c.ready 0 100 then
   k (.str (bs [114, 101, 97, 100, 121])) ([])
 else
   bif !S.rin c.subset 0 100 then
   k (.str (bs [115, 117, 98, 115, 101, 116])) ([])
 else
   bif !S.rin c.sample 0 100 then
   k (.str (bs [115, 97, 109, 112, 108, 101])) ([])
 else
   k (.str (bs [])) ([])
 else
   bif !S.rin c.target 10 1000000 then
   k (.str (bs [116, 97, 114, 103, 101, 116])) ([])
 else
   bif !S.rin c.util 100 1000 then
   k (.str (bs [117, 116, 105, 108])) ([])
 else
   bif !S.rin c.stable 6 600 then
   k (.str (bs [115, 116, 97, 98, 108, 101])) ([])
 else
   bif !S.rin c.panic 1 c.stable then
   k (.str (bs [112, 97, 110, 105, 99])) ([])
 else
   bif !S.rin c.grain 1 c.panic then
   k (.str (bs [103, 114, 97, 105, 110])) ([])
 else
   bif !S.rin c.threshold 1100 10000 then
   k (.str (bs [116, 104, 114, 101, 115, 104, 111, 108, 100])) ([])
 else
   bif !S.rin c.up 1001 1000000 then
   k (.str (bs [117, 112])) ([])
 else
   bif !S.rin c.down 1001 1000000 then
   k (.str (bs [100, 111, 119, 110])) ([])
 else
   bif !S.rin c.min 0 100 then
   k (.str (bs [109, 105, 110])) ([])
 else
   bif !S.rin c.initial 0 c.max then
   k (.str (bs [105, 110, 105, 116, 105, 97, 108])) ([])
 else
   bif !S.rin c.grace 0 600 then
   k (.str (bs [103, 114, 97, 99, 101])) ([])
 else
   bif !S.rin c.delay 0 600 then
   k (.str (bs [100, 101, 108, 97, 121])) ([])
 else
   bif !S.rin c.burst 0 100000000 then
   k (.str (bs [98, 117, 114, 115, 116])) ([])
 else
   bif !S.rin c.limit 1 1000 then
   k (.str (bs [108, 105, 109, 105, 116])) ([])
 else
   bif !S.rin c.queue 0 200 then
   k (.str (bs [113, 117, 101, 117, 101])) ([])
 else
   bif !S.rin c.timeout 1 10000 then
   k (.str (bs [116, 105, 109, 101, 111, 117, 116])) ([])
 else
   bif !S.rin c.ready 0 100 then
   k (.str (bs [114, 101, 97, 100, 121])) ([])
 else
   bif !S.rin c.subset 0 100 then
   k (.str (bs [115, 117, 98, 115, 101, 116])) ([])
 else
   bif !S.rin c.sample 0 100 then
   k (.str (bs [115, 97, 109, 112, 108, 101])) ([])
 else
   k (.str (bs [])) ([])
 else
   bif decide (c.burst = -1000) then
   bif !S.rin c.target 10 1000000 then
   k (.str (bs [116, 97, 114, 103, 101, 116])) ([])
 else
   bif !S.rin c.util 100 1000 then
   k (.str (bs [117, 116, 105, 108])) ([])
 else
   bif !S.rin c.stable 6 600 then
   k (.str (bs [115, 116, 97, 98, 108, 101])) ([])
 else
   bif !S.rin c.panic 1 c.stable then
   k (.str (bs [112, 97, 110, 105, 99])) ([])
 else
   bif !S.rin c.grain 1 c.panic then
   k (.str (bs [103, 114, 97, 105, 110])) ([])
 else
   bif !S.rin c.threshold 1100 10000 then
   k (.str (bs [116, 104, 114, 101, 115, 104, 111, 108, 100])) ([])
 else
   bif !S.rin c.up 1001 1000000 then
   k (.str (bs [117, 112])) ([])
 else
   bif !S.rin c.down 1001 1000000 then
   k (.str (bs [100, 111, 119, 110])) ([])
 else
   bif !S.rin c.min 0 100 then
   k (.str (bs [109, 105, 110])) ([])
 else
   bif !S.rin c.max (if 1 > c.min then 1 else c.min) 100 then
   k (.str (bs [109, 97, 120])) ([])
 else
   bif !S.rin c.initial 0 c.max then
   k (.str (bs [105, 110, 105, 116, 105, 97, 108])) ([])
 else
   bif !S.rin c.grace 0 600 then
   k (.str (bs [103, 114, 97, 99, 101])) ([])
 else
   bif !S.rin c.delay 0 600 then
   k (.str (bs [100, 101, 108, 97, 121])) ([])
 else
   bif !S.rin c.limit 1 1000 then
   k (.str (bs [108, 105, 109, 105, 116])) ([])
 else
   bif !S.rin c.queue 0 200 then
   k (.str (bs [113, 117, 101, 117, 101])) ([])
 else
   bif !S.rin c.timeout 1 10000 then
   k (.str (bs [116, 105, 109, 101, 111, 117, 116])) ([])
 else
   bif !S.rin c.ready 0 100 then
   k (.str (bs [114, 101, 97, 100, 121])) ([])
 else
   bif !S.rin c.subset 0 100 then
   k (.str (bs [115, 117, 98, 115, 101, 116])) ([])
 else
   bif !S.rin c.sample 0 100 then
   k (.str (bs [115, 97, 109, 112, 108, 101])) ([])
 else
   k (.str (bs [])) ([])
 else
   bif !S.rin c.target 10 1000000 then
   k (.str (bs [116, 97, 114, 103, 101, 116])) ([])
 else
   bif !S.rin c.util 100 1000 then
   k (.str (bs [117, 116, 105, 108])) ([])
 else
   bif !S.rin c.stable 6 600 then
   k (.str (bs [115, 116, 97, 98, 108, 101])) ([])
 else
   bif !S.rin c.panic 1 c.stable then
   k (.str (bs [112, 97, 110, 105, 99])) ([])
 else
   bif !S.rin c.grain 1 c.panic then
   k (.str (bs [103, 114, 97, 105, 110])) ([])
 else
   bif !S.rin c.threshold 1100 10000 then
   k (.str (bs [116, 104, 114, 101, 115, 104, 111, 108, 100])) ([])
 else
   bif !S.rin c.up 1001 1000000 then
   k (.str (bs [117, 112])) ([])
 else
   bif !S.rin c.down 1001 1000000 then
   k (.str (bs [100, 111, 119, 110])) ([])
 else
   bif !S.rin c.min 0 100 then
   k (.str (bs [109, 105, 110])) ([])
 else
   bif !S.rin c.max (if 1 > c.min then 1 else c.min) 100 then
   k (.str (bs [109, 97, 120])) ([])
 else
   bif !S.rin c.initial 0 c.max then
   k (.str (bs [105, 110, 105, 116, 105, 97, 108])) ([])
 else
   bif !S.rin c.grace 0 600 then
   k (.str (bs [103, 114, 97, 99, 101])) ([])
 else
   bif !S.rin c.delay 0 600 then
   k (.str (bs [100, 101, 108, 97, 121])) ([])
 else
   bif !S.rin c.burst 0 100000000 then
   k (.str (bs [98, 117, 114, 115, 116])) ([])
 else
   bif !S.rin c.limit 1 1000 then
   k (.str (bs [108, 105, 109, 105, 116])) ([])
 else
   bif !S.rin c.queue 0 200 then
   k (.str (bs [113, 117, 101, 117, 101])) ([])
 else
   bif !S.rin c.timeout 1 10000 then
   k (.str (bs [116, 105, 109, 101, 111, 117, 116])) ([])
 else
   bif !S.rin c.ready 0 100 then
   k (.str (bs [114, 101, 97, 100, 121])) ([])
 else
   bif !S.rin c.subset 0 100 then
   k (.str (bs [115, 117, 98, 115, 101, 116])) ([])
 else
   bif !S.rin c.sample 0 100 then
   k (.str (bs [115, 97, 109, 112, 108, 101])) ([])
 else
   k (.str (bs [])) ([])
 else
   bif decide (c.max = 0) then
   bif decide (c.burst = -1000) then
   bif !S.rin c.target 10 1000000 then
   k (.str (bs [116, 97, 114, 103, 101, 116])) ([])
 else
   bif !S.rin c.util 100 1000 then
   k (.str (bs [117, 116, 105, 108])) ([])
 else
   bif !S.rin c.stable 6 600 then
   k (.str (bs [115, 116, 97, 98, 108, 101])) ([])
 else
   bif !S.rin c.panic 1 c.stable then
   k (.str (bs [112, 97, 110, 105, 99])) ([])
 else
   bif !S.rin c.grain 1 c.panic then
   k (.str (bs [103, 114, 97, 105, 110])) ([])
 else
   bif !S.rin c.threshold 1100 10000 then
   k (.str (bs [116, 104, 114, 101, 115, 104, 111, 108, 100])) ([])
 else
   bif !S.rin c.up 1001 1000000 then
   k (.str (bs [117, 112])) ([])
 else
   bif !S.rin c.down 1001 1000000 then
   k (.str (bs [100, 111, 119, 110])) ([])
 else
   bif !S.rin c.min 0 100 then
   k (.str (bs [109, 105, 110])) ([])
 else
   bif !S.rin c.initial 0 100 then
   k (.str (bs [105, 110, 105, 116, 105, 97, 108])) ([])
 else
   bif !S.rin c.grace 0 600 then
   k (.str (bs [103, 114, 97, 99, 101])) ([])
 else
   bif !S.rin c.delay 0 600 then
   k (.str (bs [100, 101, 108, 97, 121])) ([])
 else
   bif !S.rin c.limit 1 1000 then
   k (.str (bs [108, 105, 109, 105, 116])) ([])
 else
   bif !S.rin c.queue 0 200 then
   k (.str (bs [113, 117, 101, 117, 101])) ([])
 else
   bif !S.rin c.timeout 1 10000 then
   k (.str (bs [116, 105, 109, 101, 111, 117, 116])) ([])
 else
   bif !S.rin c.ready 0 100 then
   k (.str (bs [114, 101, 97, 100, 121])) ([])
 else
   bif !S.rin c.subset 0 100 then
   k (.str (bs [115, 117, 98, 115, 101, 116])) ([])
 else
   bif !S.rin c.sample 0 100 then
   k (.str (bs [115, 97, 109, 112, 108, 101])) ([])
 else
   k (.str (bs [])) ([])
 else
   bif !S.rin c.target 10 1000000 then
   k (.str (bs [116, 97, 114, 103, 101, 116])) ([])
 else
   bif !S.rin c.util 100 1000 then
   k (.str (bs [117, 116, 105, 108])) ([])
 else
   bif !S.rin c.stable 6 600 then
   k (.str (bs [115, 116, 97, 98, 108, 101])) ([])
 else
   bif !S.rin c.panic 1 c.stable then
   k (.str (bs [112, 97, 110, 105, 99])) ([])
 else
   bif !S.rin c.grain 1 c.panic then
   k (.str (bs [103, 114, 97, 105, 110])) ([])
 else
   bif !S.rin c.threshold 1100 10000 then
   k (.str (bs [116, 104, 114, 101, 115, 104, 111, 108, 100])) ([])
 else
   bif !S.rin c.up 1001 1000000 then
   k (.str (bs [117, 112])) ([])
 else
   bif !S.rin c.down 1001 1000000 then
   k (.str (bs [100, 111, 119, 110])) ([])
 else
   bif !S.rin c.min 0 100 then
   k (.str (bs [109, 105, 110])) ([])
 else
   bif !S.rin c.initial 0 100 then
   k (.str (bs [105, 110, 105, 116, 105, 97, 108])) ([])
 else
   bif !S.rin c.grace 0 600 then
   k (.str (bs [103, 114, 97, 99, 101])) ([])
 else
   bif !S.rin c.delay 0 600 then
   k (.str (bs [100, 101, 108, 97, 121])) ([])
 else
   bif !S.rin c.burst 0 100000000 then
   k (.str (bs [98, 117, 114, 115, 116])) ([])
 else
   bif !S.rin c.limit 1 1000 then
   k (.str (bs [108, 105, 109, 105, 116])) ([])
 else
   bif !S.rin c.queue 0 200 then
   k (.str (bs [113, 117, 101, 117, 101])) ([])
 else
   bif !S.rin c.timeout 1 10000 then
   k (.str (bs [116, 105, 109, 101, 111, 117, 116])) ([])
 else
   bif !S.rin c.ready 0 100 then
   k (.str (bs [114, 101, 97, 100, 121])) ([])
 else
   bif !S.rin c.subset 0 100 then
   k (.str (bs [115, 117, 98, 115, 101, 116])) ([])
 else
   bif !S.rin c.sample 0 100 then
   k (.str (bs [115, 97, 109, 112, 108, 101])) ([])
 else
   k (.str (bs [])) ([])
 else
   bif decide (c.burst = -1000) then
   bif !S.rin c.target 10 1000000 then
   k (.str (bs [116, 97, 114, 103, 101, 116])) ([])
 else
   bif !S.rin c.util 100 1000 then
   k (.str (bs [117, 116, 105, 108])) ([])
 else
   bif !S.rin c.stable 6 600 then
   k (.str (bs [115, 116, 97, 98, 108, 101])) ([])
 else
   bif !S.rin c.panic 1 c.stable then
   k (.str (bs [112, 97, 110, 105, 99])) ([])
 else
   bif !S.rin c.grain 1 c.panic then
   k (.str (bs [103, 114, 97, 105, 110])) ([])
 else
   bif !S.rin c.threshold 1100 10000 then
   k (.str (bs [116, 104, 114, 101, 115, 104, 111, 108, 100])) ([])
 else
   bif !S.rin c.up 1001 1000000 then
   k (.str (bs [117, 112])) ([])
 else
   bif !S.rin c.down 1001 1000000 then
   k (.str (bs [100, 111, 119, 110])) ([])
 else
   bif !S.rin c.min 0 100 then
   k (.str (bs [109, 105, 110])) ([])
 else
   bif !S.rin c.max (if 1 > c.min then 1 else c.min) 100 then
   k (.str (bs [109, 97, 120])) ([])
 else
   bif !S.rin c.initial 0 100 then
   k (.str (bs [105, 110, 105, 116, 105, 97, 108])) ([])
 else
   bif !S.rin c.grace 0 600 then
   k (.str (bs [103, 114, 97, 99, 101])) ([])
 else
   bif !S.rin c.delay 0 600 then
   k (.str (bs [100, 101, 108, 97, 121])) ([])
 else
   bif !S.rin c.limit 1 1000 then
   k (.str (bs [108, 105, 109, 105, 116])) ([])
 else
   bif !S.rin c.queue 0 200 then
   k (.str (bs [113, 117, 101, 117, 101])) ([])
 else
   bif !S.rin c.timeout 1 10000 then
   k (.str (bs [116, 105, 109, 101, 111, 117, 116])) ([])
 else
   bif !S.rin c.ready 0 100 then
   k (.str (bs [114, 101, 97, 100, 121])) ([])
 else
   bif !S.rin c.subset 0 100 then
   k (.str (bs [115, 117, 98, 115, 101, 116])) ([])
 else
   bif !S.rin c.sample 0 100 then
   k (.str (bs [115, 97, 109, 112, 108, 101])) ([])
 else
   k (.str (bs [])) ([])
 else
   bif !S.rin c.target 10 1000000 then
   k (.str (bs [116, 97, 114, 103, 101, 116])) ([])
 else
   bif !S.rin c.util 100 1000 then
   k (.str (bs [117, 116, 105, 108])) ([])
 else
   bif !S.rin c.stable 6 600 then
   k (.str (bs [115, 116, 97, 98, 108, 101])) ([])
 else
   bif !S.rin c.panic 1 c.stable then
   k (.str (bs [112, 97, 110, 105, 99])) ([])
 else
   bif !S.rin c.grain 1 c.panic then
   k (.str (bs [103, 114, 97, 105, 110])) ([])
 else
   bif !S.rin c.threshold 1100 10000 then
   k (.str (bs [116, 104, 114, 101, 115, 104, 111, 108, 100])) ([])
 else
   bif !S.rin c.up 1001 1000000 then
   k (.str (bs [117, 112])) ([])
 else
   bif !S.rin c.down 1001 1000000 then
   k (.str (bs [100, 111, 119, 110])) ([])
 else
   bif !S.rin c.min 0 100 then
   k (.str (bs [109, 105, 110])) ([])
 else
   bif !S.rin c.max (if 1 > c.min then 1 else c.min) 100 then
   k (.str (bs [109, 97, 120])) ([])
 else
   bif !S.rin c.initial 0 100 then
   k (.str (bs [105, 110, 105, 116, 105, 97, 108])) ([])
 else
   bif !S.rin c.grace 0 600 then
   k (.str (bs [103, 114, 97, 99, 101])) ([])
 else
   bif !S.rin c.delay 0 600 then
   k (.str (bs [100, 101, 108, 97, 121])) ([])
 else
   bif !S.rin c.burst 0 100000000 then
   k (.str (bs [98, 117, 114, 115, 116])) ([])
 else
   bif !S.rin c.limit 1 1000 then
   k (.str (bs [108, 105, 109, 105, 116])) ([])
 else
   bif !S.rin c.queue 0 200 then
   k (.str (bs [113, 117, 101, 117, 101])) ([])
 else
   bif !S.rin c.timeout 1 10000 then
   k (.str (bs [116, 105, 109, 101, 111, 117, 116])) ([])
 else
   bif !S.rin c.ready 0 100 then
   k (.str (bs [114, 101, 97, 100, 121])) ([])
 else
   bif !S.rin c.subset 0 100 then
   k (.str (bs [115, 117, 98, 115, 101, 116])) ([])
 else
   bif !S.rin c.sample 0 100 then
   k (.str (bs [115, 97, 109, 112, 108, 101])) ([])
 else
   k (.str (bs [])) ([])) := by kernel_rfl
noncomputable def S.rwrong (c : Cf) : ByteArray :=
  bif decide (0 < c.max) then
   bif decide (c.max = 0) then
   bif decide (c.burst = -1000) then
   bif !S.rin c.target 10 1000000 then
   (bs [116, 97, 114, 103, 101, 116])
 else
   bif !S.rin c.util 100 1000 then
   (bs [117, 116, 105, 108])
 else
   bif !S.rin c.stable 6 600 then
   (bs [115, 116, 97, 98, 108, 101])
 else
   bif !S.rin c.panic 1 c.stable then
   (bs [112, 97, 110, 105, 99])
 else
   bif !S.rin c.grain 1 c.panic then
   (bs [103, 114, 97, 105, 110])
 else
   bif !S.rin c.threshold 1100 10000 then
   (bs [116, 104, 114, 101, 115, 104, 111, 108, 100])
 else
   bif !S.rin c.up 1001 1000000 then
   (bs [117, 112])
 else
   bif !S.rin c.down 1001 1000000 then
   (bs [100, 111, 119, 110])
 else
   bif !S.rin c.min 0 100 then
   (bs [109, 105, 110])
 else
   bif !S.rin c.initial 0 c.max then
   (bs [105, 110, 105, 116, 105, 97, 108])
 else
   bif !S.rin c.grace 0 600 then
   (bs [103, 114, 97, 99, 101])
 else
   bif !S.rin c.delay 0 600 then
   (bs [100, 101, 108, 97, 121])
 else
   bif !S.rin c.limit 1 1000 then
   (bs [108, 105, 109, 105, 116])
 else
   bif !S.rin c.queue 0 200 then
   (bs [113, 117, 101, 117, 101])
 else
   bif !S.rin c.timeout 1 10000 then
   (bs [116, 105, 109, 101, 111, 117, 116])
 else
   bif !S.rin c.ready 0 100 then
   (bs [114, 101, 97, 100, 121])
 else
   bif !S.rin c.subset 0 100 then
   (bs [115, 117, 98, 115, 101, 116])
 else
   bif !S.rin c.sample 0 100 then
   (bs [115, 97, 109, 112, 108, 101])
 else
   (bs [])
 else
   bif !S.rin c.target 10 1000000 then
   (bs [116, 97, 114, 103, 101, 116])
 else
   bif !S.rin c.util 100 1000 then
   (bs [117, 116, 105, 108])
 else
   bif !S.rin c.stable 6 600 then
   (bs [115, 116, 97, 98, 108, 101])
 else
   bif !S.rin c.panic 1 c.stable then
   (bs [112, 97, 110, 105, 99])
 else
   bif !S.rin c.grain 1 c.panic then
   (bs [103, 114, 97, 105, 110])
 else
   bif !S.rin c.threshold 1100 10000 then
   (bs [116, 104, 114, 101, 115, 104, 111, 108, 100])
 else
   bif !S.rin c.up 1001 1000000 then
   (bs [117, 112])
 else
   bif !S.rin c.down 1001 1000000 then
   (bs [100, 111, 119, 110])
 else
   bif !S.rin c.min 0 100 then
   (bs [109, 105, 110])
 else
   bif !S.rin c.initial 0 c.max then
   (bs [105, 110, 105, 116, 105, 97, 108])
 else
   bif !S.rin c.grace 0 600 then
   (bs [103, 114, 97, 99, 101])
 else
   bif !S.rin c.delay 0 600 then
   (bs [100, 101, 108, 97, 121])
 else
   bif !S.rin c.burst 0 100000000 then
   (bs [98, 117, 114, 115, 116])
 else
   bif !S.rin c.limit 1 1000 then
   (bs [108, 105, 109, 105, 116])
 else
   bif !S.rin c.queue 0 200 then
   (bs [113, 117, 101, 117, 101])
 else
   bif !S.rin c.timeout 1 10000 then
   (bs [116, 105, 109, 101, 111, 117, 116])
 else
   bif !S.rin c.ready 0 100 then
   (bs [114, 101, 97, 100, 121])
 else
   bif !S.rin c.subset 0 100 then
   (bs [115, 117, 98, 115, 101, 116])
 else
   bif !S.rin c.sample 0 100 then
   (bs [115, 97, 109, 112, 108, 101])
 else
   (bs [])
 else
   bif decide (c.burst = -1000) then
   bif !S.rin c.target 10 1000000 then
   (bs [116, 97, 114, 103, 101, 116])
 else
   bif !S.rin c.util 100 1000 then
   (bs [117, 116, 105, 108])
 else
   bif !S.rin c.stable 6 600 then
   (bs [115, 116, 97, 98, 108, 101])
 else
   bif !S.rin c.panic 1 c.stable then
   (bs [112, 97, 110, 105, 99])
 else
   bif !S.rin c.grain 1 c.panic then
   (bs [103, 114, 97, 105, 110])
 else
   bif !S.rin c.threshold 1100 10000 then
   (bs [116, 104, 114, 101, 115, 104, 111, 108, 100])
 else
   bif !S.rin c.up 1001 1000000 then
   (bs [117, 112])
 else
   bif !S.rin c.down 1001 1000000 then
   (bs [100, 111, 119, 110])
 else
   bif !S.rin c.min 0 100 then
   (bs [109, 105, 110])
 else
   bif !S.rin c.max (if 1 > c.min then 1 else c.min) 100 then
   (bs [109, 97, 120])
 else
   bif !S.rin c.initial 0 c.max then
   (bs [105, 110, 105, 116, 105, 97, 108])
 else
   bif !S.rin c.grace 0 600 then
   (bs [103, 114, 97, 99, 101])
 else
   bif !S.rin c.delay 0 600 then
   (bs [100, 101, 108, 97, 121])
 else
   bif !S.rin c.limit 1 1000 then
   (bs [108, 105, 109, 105, 116])
 else
   bif !S.rin c.queue 0 200 then
   (bs [113, 117, 101, 117, 101])
 else
   bif !S.rin c.timeout 1 10000 then
   (bs [116, 105, 109, 101, 111, 117, 116])
 else
   bif !S.rin c.ready 0 100 then
   (bs [114, 101, 97, 100, 121])
 else
   bif !S.rin c.subset 0 100 then
   (bs [115, 117, 98, 115, 101, 116])
 else
   bif !S.rin c.sample 0 100 then
   (bs [115, 97, 109, 112, 108, 101])
 else
   (bs [])
 else
   bif !S.rin c.target 10 1000000 then
   (bs [116, 97, 114, 103, 101, 116])
 else
   bif !S.rin c.util 100 1000 then
   (bs [117, 116, 105, 108])
 else
   bif !S.rin c.stable 6 600 then
   (bs [115, 116, 97, 98, 108, 101])
 else
   bif !S.rin c.panic 1 c.stable then
   (bs [112, 97, 110, 105, 99])
 else
   bif !S.rin c.grain 1 c.panic then
   (bs [103, 114, 97, 105, 110])
 else
   bif !S.rin c.threshold 1100 10000 then
   (bs [116, 104, 114, 101, 115, 104, 111, 108, 100])
 else
   bif !S.rin c.up 1001 1000000 then
   (bs [117, 112])
 else
   bif !S.rin c.down 1001 1000000 then
   (bs [100, 111, 119, 110])
 else
   bif !S.rin c.min 0 100 then
   (bs [109, 105, 110])
 else
   bif !S.rin c.max (if 1 > c.min then 1 else c.min) 100 then
   (bs [109, 97, 120])
 else
   bif !S.rin c.initial 0 c.max then
   (bs [105, 110, 105, 116, 105, 97, 108])
 else
   bif !S.rin c.grace 0 600 then
   (bs [103, 114, 97, 99, 101])
 else
   bif !S.rin c.delay 0 600 then
   (bs [100, 101, 108, 97, 121])
 else
   bif !S.rin c.burst 0 100000000 then
   (bs [98, 117, 114, 115, 116])
 else
   bif !S.rin c.limit 1 1000 then
   (bs [108, 105, 109, 105, 116])
 else
   bif !S.rin c.queue 0 200 then
   (bs [113, 117, 101, 117, 101])
 else
   bif !S.rin c.timeout 1 10000 then
   (bs [116, 105, 109, 101, 111, 117, 116])
 else
   bif !S.rin c.ready 0 100 then
   (bs [114, 101, 97, 100, 121])
 else
   bif !S.rin c.subset 0 100 then
   (bs [115, 117, 98, 115, 101, 116])
 else
   bif !S.rin c.sample 0 100 then
   (bs [115, 97, 109, 112, 108, 101])
 else
   (bs [])
 else
   bif decide (c.max = 0) then
   bif decide (c.burst = -1000) then
   bif !S.rin c.target 10 1000000 then
   (bs [116, 97, 114, 103, 101, 116])
 else
   bif !S.rin c.util 100 1000 then
   (bs [117, 116, 105, 108])
 else
   bif !S.rin c.stable 6 600 then
   (bs [115, 116, 97, 98, 108, 101])
 else
   bif !S.rin c.panic 1 c.stable then
   (bs [112, 97, 110, 105, 99])
 else
   bif !S.rin c.grain 1 c.panic then
   (bs [103, 114, 97, 105, 110])
 else
   bif !S.rin c.threshold 1100 10000 then
   (bs [116, 104, 114, 101, 115, 104, 111, 108, 100])
 else
   bif !S.rin c.up 1001 1000000 then
   (bs [117, 112])
 else
   bif !S.rin c.down 1001 1000000 then
   (bs [100, 111, 119, 110])
 else
   bif !S.rin c.min 0 100 then
   (bs [109, 105, 110])
 else
   bif !S.rin c.initial 0 100 then
   (bs [105, 110, 105, 116, 105, 97, 108])
 else
   bif !S.rin c.grace 0 600 then
   (bs [103, 114, 97, 99, 101])
 else
   bif !S.rin c.delay 0 600 then
   (bs [100, 101, 108, 97, 121])
 else
   bif !S.rin c.limit 1 1000 then
   (bs [108, 105, 109, 105, 116])
 else
   bif !S.rin c.queue 0 200 then
   (bs [113, 117, 101, 117, 101])
 else
   bif !S.rin c.timeout 1 10000 then
   (bs [116, 105, 109, 101, 111, 117, 116])
 else
   bif !S.rin c.ready 0 100 then
   (bs [114, 101, 97, 100, 121])
 else
   bif !S.rin c.subset 0 100 then
   (bs [115, 117, 98, 115, 101, 116])
 else
   bif !S.rin c.sample 0 100 then
   (bs [115, 97, 109, 112, 108, 101])
 else
   (bs [])
 else
   bif !S.rin c.target 10 1000000 then
   (bs [116, 97, 114, 103, 101, 116])
 else
   bif !S.rin c.util 100 1000 then
   (bs [117, 116, 105, 108])
 else
   bif !S.rin c.stable 6 600 then
   (bs [115, 116, 97, 98, 108, 101])
 else
   bif !S.rin c.panic 1 c.stable then
   (bs [112, 97, 110, 105, 99])
 else
   bif !S.rin c.grain 1 c.panic then
   (bs [103, 114, 97, 105, 110])
 else
   bif !S.rin c.threshold 1100 10000 then
   (bs [116, 104, 114, 101, 115, 104, 111, 108, 100])
 else
   bif !S.rin c.up 1001 1000000 then
   (bs [117, 112])
 else
   bif !S.rin c.down 1001 1000000 then
   (bs [100, 111, 119, 110])
 else
   bif !S.rin c.min 0 100 then
   (bs [109, 105, 110])
 else
   bif !S.rin c.initial 0 100 then
   (bs [105, 110, 105, 116, 105, 97, 108])
 else
   bif !S.rin c.grace 0 600 then
   (bs [103, 114, 97, 99, 101])
 else
   bif !S.rin c.delay 0 600 then
   (bs [100, 101, 108, 97, 121])
 else
   bif !S.rin c.burst 0 100000000 then
   (bs [98, 117, 114, 115, 116])
 else
   bif !S.rin c.limit 1 1000 then
   (bs [108, 105, 109, 105, 116])
 else
   bif !S.rin c.queue 0 200 then
   (bs [113, 117, 101, 117, 101])
 else
   bif !S.rin c.timeout 1 10000 then
   (bs [116, 105, 109, 101, 111, 117, 116])
 else
   bif !S.rin c.ready 0 100 then
   (bs [114, 101, 97, 100, 121])
 else
   bif !S.rin c.subset 0 100 then
   (bs [115, 117, 98, 115, 101, 116])
 else
   bif !S.rin c.sample 0 100 then
   (bs [115, 97, 109, 112, 108, 101])
 else
   (bs [])
 else
   bif decide (c.burst = -1000) then
   bif !S.rin c.target 10 1000000 then
   (bs [116, 97, 114, 103, 101, 116])
 else
   bif !S.rin c.util 100 1000 then
   (bs [117, 116, 105, 108])
 else
   bif !S.rin c.stable 6 600 then
   (bs [115, 116, 97, 98, 108, 101])
 else
   bif !S.rin c.panic 1 c.stable then
   (bs [112, 97, 110, 105, 99])
 else
   bif !S.rin c.grain 1 c.panic then
   (bs [103, 114, 97, 105, 110])
 else
   bif !S.rin c.threshold 1100 10000 then
   (bs [116, 104, 114, 101, 115, 104, 111, 108, 100])
 else
   bif !S.rin c.up 1001 1000000 then
   (bs [117, 112])
 else
   bif !S.rin c.down 1001 1000000 then
   (bs [100, 111, 119, 110])
 else
   bif !S.rin c.min 0 100 then
   (bs [109, 105, 110])
 else
   bif !S.rin c.max (if 1 > c.min then 1 else c.min) 100 then
   (bs [109, 97, 120])
 else
   bif !S.rin c.initial 0 100 then
   (bs [105, 110, 105, 116, 105, 97, 108])
 else
   bif !S.rin c.grace 0 600 then
   (bs [103, 114, 97, 99, 101])
 else
   bif !S.rin c.delay 0 600 then
   (bs [100, 101, 108, 97, 121])
 else
   bif !S.rin c.limit 1 1000 then
   (bs [108, 105, 109, 105, 116])
 else
   bif !S.rin c.queue 0 200 then
   (bs [113, 117, 101, 117, 101])
 else
   bif !S.rin c.timeout 1 10000 then
   (bs [116, 105, 109, 101, 111, 117, 116])
 else
   bif !S.rin c.ready 0 100 then
   (bs [114, 101, 97, 100, 121])
 else
   bif !S.rin c.subset 0 100 then
   (bs [115, 117, 98, 115, 101, 116])
 else
   bif !S.rin c.sample 0 100 then
   (bs [115, 97, 109, 112, 108, 101])
 else
   (bs [])
 else
   bif !S.rin c.target 10 1000000 then
   (bs [116, 97, 114, 103, 101, 116])
 else
   bif !S.rin c.util 100 1000 then
   (bs [117, 116, 105, 108])
 else
   bif !S.rin c.stable 6 600 then
   (bs [115, 116, 97, 98, 108, 101])
 else
   bif !S.rin c.panic 1 c.stable then
   (bs [112, 97, 110, 105, 99])
 else
   bif !S.rin c.grain 1 c.panic then
   (bs [103, 114, 97, 105, 110])
 else
   bif !S.rin c.threshold 1100 10000 then
   (bs [116, 104, 114, 101, 115, 104, 111, 108, 100])
 else
   bif !S.rin c.up 1001 1000000 then
   (bs [117, 112])
 else
   bif !S.rin c.down 1001 1000000 then
   (bs [100, 111, 119, 110])
 else
   bif !S.rin c.min 0 100 then
   (bs [109, 105, 110])
 else
   bif !S.rin c.max (if 1 > c.min then 1 else c.min) 100 then
   (bs [109, 97, 120])
 else
   bif !S.rin c.initial 0 100 then
   (bs [105, 110, 105, 116, 105, 97, 108])
 else
   bif !S.rin c.grace 0 600 then
   (bs [103, 114, 97, 99, 101])
 else
   bif !S.rin c.delay 0 600 then
   (bs [100, 101, 108, 97, 121])
 else
   bif !S.rin c.burst 0 100000000 then
   (bs [98, 117, 114, 115, 116])
 else
   bif !S.rin c.limit 1 1000 then
   (bs [108, 105, 109, 105, 116])
 else
   bif !S.rin c.queue 0 200 then
   (bs [113, 117, 101, 117, 101])
 else
   bif !S.rin c.timeout 1 10000 then
   (bs [116, 105, 109, 101, 111, 117, 116])
 else
   bif !S.rin c.ready 0 100 then
   (bs [114, 101, 97, 100, 121])
 else
   bif !S.rin c.subset 0 100 then
   (bs [115, 117, 98, 115, 101, 116])
 else
   bif !S.rin c.sample 0 100 then
   (bs [115, 97, 109, 112, 108, 101])
 else
   (bs [])
noncomputable def S.rwrong_gk {R : Type} (c : Cf) (k : AVal → List Blk → Option R) : (ByteArray) → Option R := (fun v : ByteArray => k (.str v) [])
theorem S.rwrong_v {R : Type} (c : Cf) (k : AVal → List Blk → Option R) : fnEval tis F28 40 G56 Try.f28 [.agg (cfA c)] [] k = k (.str (S.rwrong c)) [] :=
  (S.rwrong_k c k).trans (bif_lift (f := (S.rwrong_gk c k)) (bif_lift (f := (S.rwrong_gk c k)) (bif_lift (f := (S.rwrong_gk c k)) (bif_lift (f := (S.rwrong_gk c k)) rfl (bif_lift (f := (S.rwrong_gk c k)) rfl (bif_lift (f := (S.rwrong_gk c k)) rfl (bif_lift (f := (S.rwrong_gk c k)) rfl (bif_lift (f := (S.rwrong_gk c k)) rfl (bif_lift (f := (S.rwrong_gk c k)) rfl (bif_lift (f := (S.rwrong_gk c k)) rfl (bif_lift (f := (S.rwrong_gk c k)) rfl (bif_lift (f := (S.rwrong_gk c k)) rfl (bif_lift (f := (S.rwrong_gk c k)) rfl (bif_lift (f := (S.rwrong_gk c k)) rfl (bif_lift (f := (S.rwrong_gk c k)) rfl (bif_lift (f := (S.rwrong_gk c k)) rfl (bif_lift (f := (S.rwrong_gk c k)) rfl (bif_lift (f := (S.rwrong_gk c k)) rfl (bif_lift (f := (S.rwrong_gk c k)) rfl (bif_lift (f := (S.rwrong_gk c k)) rfl (bif_lift (f := (S.rwrong_gk c k)) rfl rfl)))))))))))))))))) (bif_lift (f := (S.rwrong_gk c k)) rfl (bif_lift (f := (S.rwrong_gk c k)) rfl (bif_lift (f := (S.rwrong_gk c k)) rfl (bif_lift (f := (S.rwrong_gk c k)) rfl (bif_lift (f := (S.rwrong_gk c k)) rfl (bif_lift (f := (S.rwrong_gk c k)) rfl (bif_lift (f := (S.rwrong_gk c k)) rfl (bif_lift (f := (S.rwrong_gk c k)) rfl (bif_lift (f := (S.rwrong_gk c k)) rfl (bif_lift (f := (S.rwrong_gk c k)) rfl (bif_lift (f := (S.rwrong_gk c k)) rfl (bif_lift (f := (S.rwrong_gk c k)) rfl (bif_lift (f := (S.rwrong_gk c k)) rfl (bif_lift (f := (S.rwrong_gk c k)) rfl (bif_lift (f := (S.rwrong_gk c k)) rfl (bif_lift (f := (S.rwrong_gk c k)) rfl (bif_lift (f := (S.rwrong_gk c k)) rfl (bif_lift (f := (S.rwrong_gk c k)) rfl (bif_lift (f := (S.rwrong_gk c k)) rfl rfl)))))))))))))))))))) (bif_lift (f := (S.rwrong_gk c k)) (bif_lift (f := (S.rwrong_gk c k)) rfl (bif_lift (f := (S.rwrong_gk c k)) rfl (bif_lift (f := (S.rwrong_gk c k)) rfl (bif_lift (f := (S.rwrong_gk c k)) rfl (bif_lift (f := (S.rwrong_gk c k)) rfl (bif_lift (f := (S.rwrong_gk c k)) rfl (bif_lift (f := (S.rwrong_gk c k)) rfl (bif_lift (f := (S.rwrong_gk c k)) rfl (bif_lift (f := (S.rwrong_gk c k)) rfl (bif_lift (f := (S.rwrong_gk c k)) rfl (bif_lift (f := (S.rwrong_gk c k)) rfl (bif_lift (f := (S.rwrong_gk c k)) rfl (bif_lift (f := (S.rwrong_gk c k)) rfl (bif_lift (f := (S.rwrong_gk c k)) rfl (bif_lift (f := (S.rwrong_gk c k)) rfl (bif_lift (f := (S.rwrong_gk c k)) rfl (bif_lift (f := (S.rwrong_gk c k)) rfl (bif_lift (f := (S.rwrong_gk c k)) rfl (bif_lift (f := (S.rwrong_gk c k)) rfl rfl))))))))))))))))))) (bif_lift (f := (S.rwrong_gk c k)) rfl (bif_lift (f := (S.rwrong_gk c k)) rfl (bif_lift (f := (S.rwrong_gk c k)) rfl (bif_lift (f := (S.rwrong_gk c k)) rfl (bif_lift (f := (S.rwrong_gk c k)) rfl (bif_lift (f := (S.rwrong_gk c k)) rfl (bif_lift (f := (S.rwrong_gk c k)) rfl (bif_lift (f := (S.rwrong_gk c k)) rfl (bif_lift (f := (S.rwrong_gk c k)) rfl (bif_lift (f := (S.rwrong_gk c k)) rfl (bif_lift (f := (S.rwrong_gk c k)) rfl (bif_lift (f := (S.rwrong_gk c k)) rfl (bif_lift (f := (S.rwrong_gk c k)) rfl (bif_lift (f := (S.rwrong_gk c k)) rfl (bif_lift (f := (S.rwrong_gk c k)) rfl (bif_lift (f := (S.rwrong_gk c k)) rfl (bif_lift (f := (S.rwrong_gk c k)) rfl (bif_lift (f := (S.rwrong_gk c k)) rfl (bif_lift (f := (S.rwrong_gk c k)) rfl (bif_lift (f := (S.rwrong_gk c k)) rfl rfl)))))))))))))))))))))) (bif_lift (f := (S.rwrong_gk c k)) (bif_lift (f := (S.rwrong_gk c k)) (bif_lift (f := (S.rwrong_gk c k)) rfl (bif_lift (f := (S.rwrong_gk c k)) rfl (bif_lift (f := (S.rwrong_gk c k)) rfl (bif_lift (f := (S.rwrong_gk c k)) rfl (bif_lift (f := (S.rwrong_gk c k)) rfl (bif_lift (f := (S.rwrong_gk c k)) rfl (bif_lift (f := (S.rwrong_gk c k)) rfl (bif_lift (f := (S.rwrong_gk c k)) rfl (bif_lift (f := (S.rwrong_gk c k)) rfl (bif_lift (f := (S.rwrong_gk c k)) rfl (bif_lift (f := (S.rwrong_gk c k)) rfl (bif_lift (f := (S.rwrong_gk c k)) rfl (bif_lift (f := (S.rwrong_gk c k)) rfl (bif_lift (f := (S.rwrong_gk c k)) rfl (bif_lift (f := (S.rwrong_gk c k)) rfl (bif_lift (f := (S.rwrong_gk c k)) rfl (bif_lift (f := (S.rwrong_gk c k)) rfl (bif_lift (f := (S.rwrong_gk c k)) rfl rfl)))))))))))))))))) (bif_lift (f := (S.rwrong_gk c k)) rfl (bif_lift (f := (S.rwrong_gk c k)) rfl (bif_lift (f := (S.rwrong_gk c k)) rfl (bif_lift (f := (S.rwrong_gk c k)) rfl (bif_lift (f := (S.rwrong_gk c k)) rfl (bif_lift (f := (S.rwrong_gk c k)) rfl (bif_lift (f := (S.rwrong_gk c k)) rfl (bif_lift (f := (S.rwrong_gk c k)) rfl (bif_lift (f := (S.rwrong_gk c k)) rfl (bif_lift (f := (S.rwrong_gk c k)) rfl (bif_lift (f := (S.rwrong_gk c k)) rfl (bif_lift (f := (S.rwrong_gk c k)) rfl (bif_lift (f := (S.rwrong_gk c k)) rfl (bif_lift (f := (S.rwrong_gk c k)) rfl (bif_lift (f := (S.rwrong_gk c k)) rfl (bif_lift (f := (S.rwrong_gk c k)) rfl (bif_lift (f := (S.rwrong_gk c k)) rfl (bif_lift (f := (S.rwrong_gk c k)) rfl (bif_lift (f := (S.rwrong_gk c k)) rfl rfl)))))))))))))))))))) (bif_lift (f := (S.rwrong_gk c k)) (bif_lift (f := (S.rwrong_gk c k)) rfl (bif_lift (f := (S.rwrong_gk c k)) rfl (bif_lift (f := (S.rwrong_gk c k)) rfl (bif_lift (f := (S.rwrong_gk c k)) rfl (bif_lift (f := (S.rwrong_gk c k)) rfl (bif_lift (f := (S.rwrong_gk c k)) rfl (bif_lift (f := (S.rwrong_gk c k)) rfl (bif_lift (f := (S.rwrong_gk c k)) rfl (bif_lift (f := (S.rwrong_gk c k)) rfl (bif_lift (f := (S.rwrong_gk c k)) rfl (bif_lift (f := (S.rwrong_gk c k)) rfl (bif_lift (f := (S.rwrong_gk c k)) rfl (bif_lift (f := (S.rwrong_gk c k)) rfl (bif_lift (f := (S.rwrong_gk c k)) rfl (bif_lift (f := (S.rwrong_gk c k)) rfl (bif_lift (f := (S.rwrong_gk c k)) rfl (bif_lift (f := (S.rwrong_gk c k)) rfl (bif_lift (f := (S.rwrong_gk c k)) rfl (bif_lift (f := (S.rwrong_gk c k)) rfl rfl))))))))))))))))))) (bif_lift (f := (S.rwrong_gk c k)) rfl (bif_lift (f := (S.rwrong_gk c k)) rfl (bif_lift (f := (S.rwrong_gk c k)) rfl (bif_lift (f := (S.rwrong_gk c k)) rfl (bif_lift (f := (S.rwrong_gk c k)) rfl (bif_lift (f := (S.rwrong_gk c k)) rfl (bif_lift (f := (S.rwrong_gk c k)) rfl (bif_lift (f := (S.rwrong_gk c k)) rfl (bif_lift (f := (S.rwrong_gk c k)) rfl (bif_lift (f := (S.rwrong_gk c k)) rfl (bif_lift (f := (S.rwrong_gk c k)) rfl (bif_lift (f := (S.rwrong_gk c k)) rfl (bif_lift (f := (S.rwrong_gk c k)) rfl (bif_lift (f := (S.rwrong_gk c k)) rfl (bif_lift (f := (S.rwrong_gk c k)) rfl (bif_lift (f := (S.rwrong_gk c k)) rfl (bif_lift (f := (S.rwrong_gk c k)) rfl (bif_lift (f := (S.rwrong_gk c k)) rfl (bif_lift (f := (S.rwrong_gk c k)) rfl (bif_lift (f := (S.rwrong_gk c k)) rfl rfl)))))))))))))))))))))))
noncomputable def H28 : Hnd := fun R args σ k => match args, σ with
  | [.agg [.int .i64 target_, .int .i64 util_, .int .i64 stable_, .int .i64 panic_, .int .i64 grain_, .int .i64 threshold_, .int .i64 up_, .int .i64 down_, .int .i64 min_, .int .i64 max_, .int .i64 initial_, .int .i64 grace_, .int .i64 delay_, .int .i64 burst_, .int .i64 limit_, .int .i64 queue_, .int .i64 timeout_, .int .i64 ready_, .int .i64 subset_, .int .i64 sample_]], [] => k (.str (S.rwrong ⟨target_, util_, stable_, panic_, grain_, threshold_, up_, down_, min_, max_, initial_, grace_, delay_, burst_, limit_, queue_, timeout_, ready_, subset_, sample_⟩)) []
  | _, _ => none
theorem H28_ok : HndOk Try.prog 28 H28 := hnd_ok tis tisOk mixOk G56_ok F28 Try.func28 rfl (by
  intro R args σ k r h
  unfold H28 at h
  split at h
  · rename_i target_ util_ stable_ panic_ grain_ threshold_ up_ down_ min_ max_ initial_ grace_ delay_ burst_ limit_ queue_ timeout_ ready_ subset_ sample_; exact ⟨40, (S.rwrong_v ⟨target_, util_, stable_, panic_, grain_, threshold_, up_, down_, min_, max_, initial_, grace_, delay_, burst_, limit_, queue_, timeout_, ready_, subset_, sample_⟩ _).trans h⟩
  · cases h)
noncomputable def G28 : Env := Env.add 28 H28 G56
theorem G28_ok : EnvOk Try.prog G28 := envAdd_ok H28_ok G56_ok

/-! spinnakerref1.May -/
def F11 : FCfg := ⟨keepAt [(0, [1]), (1, [2])], loopAt [], []⟩
theorem S.rmay_k {R : Type} (c : Cf) (k : AVal → List Blk → Option R) : fnEval tis F11 0 G28 Try.f11 [.agg (cfA c)] [] k =
  (k (.bool (Array.toList (ByteArray.data (S.rwrong c)) == Array.toList (ByteArray.data (bs [])))) ([])) := by kernel_rfl
noncomputable def S.rmay (c : Cf) : Bool :=
  (Array.toList (ByteArray.data (S.rwrong c)) == Array.toList (ByteArray.data (bs [])))
theorem S.rmay_v {R : Type} (c : Cf) (k : AVal → List Blk → Option R) : fnEval tis F11 0 G28 Try.f11 [.agg (cfA c)] [] k = k (.bool (S.rmay c)) [] :=
  (S.rmay_k c k).trans rfl
noncomputable def H11 : Hnd := fun R args σ k => match args, σ with
  | [.agg [.int .i64 target_, .int .i64 util_, .int .i64 stable_, .int .i64 panic_, .int .i64 grain_, .int .i64 threshold_, .int .i64 up_, .int .i64 down_, .int .i64 min_, .int .i64 max_, .int .i64 initial_, .int .i64 grace_, .int .i64 delay_, .int .i64 burst_, .int .i64 limit_, .int .i64 queue_, .int .i64 timeout_, .int .i64 ready_, .int .i64 subset_, .int .i64 sample_]], [] => k (.bool (S.rmay ⟨target_, util_, stable_, panic_, grain_, threshold_, up_, down_, min_, max_, initial_, grace_, delay_, burst_, limit_, queue_, timeout_, ready_, subset_, sample_⟩)) []
  | _, _ => none
theorem H11_ok : HndOk Try.prog 11 H11 := hnd_ok tis tisOk mixOk G28_ok F11 Try.func11 rfl (by
  intro R args σ k r h
  unfold H11 at h
  split at h
  · rename_i target_ util_ stable_ panic_ grain_ threshold_ up_ down_ min_ max_ initial_ grace_ delay_ burst_ limit_ queue_ timeout_ ready_ subset_ sample_; exact ⟨0, (S.rmay_v ⟨target_, util_, stable_, panic_, grain_, threshold_, up_, down_, min_, max_, initial_, grace_, delay_, burst_, limit_, queue_, timeout_, ready_, subset_, sample_⟩ _).trans h⟩
  · cases h)
noncomputable def G11 : Env := Env.add 11 H11 G28
theorem G11_ok : EnvOk Try.prog G11 := envAdd_ok H11_ok G28_ok

/-! spinnakerref1.Default -/
def F18 : FCfg := ⟨keepAt [(0, [0]), (1, [0])], loopAt [], []⟩
theorem S.dflt_k {R : Type}  (k : AVal → List Blk → Option R) : fnEval tis F18 0 G11 Try.f18 [] [] k =
  (k (.agg [.int .i64 10000, .int .i64 700, .int .i64 60, .int .i64 6, .int .i64 1, .int .i64 2000, .int .i64 10000, .int .i64 2000, .int .i64 0, .int .i64 0, .int .i64 1, .int .i64 30, .int .i64 0, .int .i64 20000, .int .i64 10, .int .i64 100, .int .i64 60, .int .i64 3, .int .i64 0, .int .i64 0]) ([])) := by kernel_rfl
noncomputable def S.dflt  : Int × Int × Int × Int × Int × Int × Int × Int × Int × Int × Int × Int × Int × Int × Int × Int × Int × Int × Int × Int :=
  (10000, 700, 60, 6, 1, 2000, 10000, 2000, 0, 0, 1, 30, 0, 20000, 10, 100, 60, 3, 0, 0)
theorem S.dflt_v {R : Type}  (k : AVal → List Blk → Option R) : fnEval tis F18 0 G11 Try.f18 [] [] k = k (.agg [(.int .i64 (S.dflt).1), (.int .i64 (S.dflt).2.1), (.int .i64 (S.dflt).2.2.1), (.int .i64 (S.dflt).2.2.2.1), (.int .i64 (S.dflt).2.2.2.2.1), (.int .i64 (S.dflt).2.2.2.2.2.1), (.int .i64 (S.dflt).2.2.2.2.2.2.1), (.int .i64 (S.dflt).2.2.2.2.2.2.2.1), (.int .i64 (S.dflt).2.2.2.2.2.2.2.2.1), (.int .i64 (S.dflt).2.2.2.2.2.2.2.2.2.1), (.int .i64 (S.dflt).2.2.2.2.2.2.2.2.2.2.1), (.int .i64 (S.dflt).2.2.2.2.2.2.2.2.2.2.2.1), (.int .i64 (S.dflt).2.2.2.2.2.2.2.2.2.2.2.2.1), (.int .i64 (S.dflt).2.2.2.2.2.2.2.2.2.2.2.2.2.1), (.int .i64 (S.dflt).2.2.2.2.2.2.2.2.2.2.2.2.2.2.1), (.int .i64 (S.dflt).2.2.2.2.2.2.2.2.2.2.2.2.2.2.2.1), (.int .i64 (S.dflt).2.2.2.2.2.2.2.2.2.2.2.2.2.2.2.2.1), (.int .i64 (S.dflt).2.2.2.2.2.2.2.2.2.2.2.2.2.2.2.2.2.1), (.int .i64 (S.dflt).2.2.2.2.2.2.2.2.2.2.2.2.2.2.2.2.2.2.1), (.int .i64 (S.dflt).2.2.2.2.2.2.2.2.2.2.2.2.2.2.2.2.2.2.2)]) [] :=
  (S.dflt_k k).trans rfl
noncomputable def H18 : Hnd := fun R args σ k => match args, σ with
  | [], [] => k (.agg [(.int .i64 (S.dflt).1), (.int .i64 (S.dflt).2.1), (.int .i64 (S.dflt).2.2.1), (.int .i64 (S.dflt).2.2.2.1), (.int .i64 (S.dflt).2.2.2.2.1), (.int .i64 (S.dflt).2.2.2.2.2.1), (.int .i64 (S.dflt).2.2.2.2.2.2.1), (.int .i64 (S.dflt).2.2.2.2.2.2.2.1), (.int .i64 (S.dflt).2.2.2.2.2.2.2.2.1), (.int .i64 (S.dflt).2.2.2.2.2.2.2.2.2.1), (.int .i64 (S.dflt).2.2.2.2.2.2.2.2.2.2.1), (.int .i64 (S.dflt).2.2.2.2.2.2.2.2.2.2.2.1), (.int .i64 (S.dflt).2.2.2.2.2.2.2.2.2.2.2.2.1), (.int .i64 (S.dflt).2.2.2.2.2.2.2.2.2.2.2.2.2.1), (.int .i64 (S.dflt).2.2.2.2.2.2.2.2.2.2.2.2.2.2.1), (.int .i64 (S.dflt).2.2.2.2.2.2.2.2.2.2.2.2.2.2.2.1), (.int .i64 (S.dflt).2.2.2.2.2.2.2.2.2.2.2.2.2.2.2.2.1), (.int .i64 (S.dflt).2.2.2.2.2.2.2.2.2.2.2.2.2.2.2.2.2.1), (.int .i64 (S.dflt).2.2.2.2.2.2.2.2.2.2.2.2.2.2.2.2.2.2.1), (.int .i64 (S.dflt).2.2.2.2.2.2.2.2.2.2.2.2.2.2.2.2.2.2.2)]) []
  | _, _ => none
theorem H18_ok : HndOk Try.prog 18 H18 := hnd_ok tis tisOk mixOk G11_ok F18 Try.func18 rfl (by
  intro R args σ k r h
  unfold H18 at h
  split at h
  · exact ⟨0, (S.dflt_v _).trans h⟩
  · cases h)
noncomputable def G18 : Env := Env.add 18 H18 G11
theorem G18_ok : EnvOk Try.prog G18 := envAdd_ok H18_ok G11_ok

/-! spinnakerref1.Per -/
def F13 : FCfg := ⟨keepAt [(0, [1]), (1, [3]), (2, [2])], loopAt [], []⟩
theorem S.rper_k {R : Type} (c : Cf) (k : AVal → List Blk → Option R) : fnEval tis F13 0 G18 Try.f13 [.agg (cfA c)] [] k =
  (k (.int .i64 (if 1 > Prod.fst (S.rmul c.target c.util) then 1 else Prod.fst (S.rmul c.target c.util))) ([])) := by kernel_rfl
noncomputable def S.rper (c : Cf) : Int :=
  (if 1 > Prod.fst (S.rmul c.target c.util) then 1 else Prod.fst (S.rmul c.target c.util))
theorem S.rper_v {R : Type} (c : Cf) (k : AVal → List Blk → Option R) : fnEval tis F13 0 G18 Try.f13 [.agg (cfA c)] [] k = k (.int .i64 (S.rper c)) [] :=
  (S.rper_k c k).trans rfl
noncomputable def H13 : Hnd := fun R args σ k => match args, σ with
  | [.agg [.int .i64 target_, .int .i64 util_, .int .i64 stable_, .int .i64 panic_, .int .i64 grain_, .int .i64 threshold_, .int .i64 up_, .int .i64 down_, .int .i64 min_, .int .i64 max_, .int .i64 initial_, .int .i64 grace_, .int .i64 delay_, .int .i64 burst_, .int .i64 limit_, .int .i64 queue_, .int .i64 timeout_, .int .i64 ready_, .int .i64 subset_, .int .i64 sample_]], [] => k (.int .i64 (S.rper ⟨target_, util_, stable_, panic_, grain_, threshold_, up_, down_, min_, max_, initial_, grace_, delay_, burst_, limit_, queue_, timeout_, ready_, subset_, sample_⟩)) []
  | _, _ => none
theorem H13_ok : HndOk Try.prog 13 H13 := hnd_ok tis tisOk mixOk G18_ok F13 Try.func13 rfl (by
  intro R args σ k r h
  unfold H13 at h
  split at h
  · rename_i target_ util_ stable_ panic_ grain_ threshold_ up_ down_ min_ max_ initial_ grace_ delay_ burst_ limit_ queue_ timeout_ ready_ subset_ sample_; exact ⟨0, (S.rper_v ⟨target_, util_, stable_, panic_, grain_, threshold_, up_, down_, min_, max_, initial_, grace_, delay_, burst_, limit_, queue_, timeout_, ready_, subset_, sample_⟩ _).trans h⟩
  · cases h)
noncomputable def G13 : Env := Env.add 13 H13 G18
theorem G13_ok : EnvOk Try.prog G13 := envAdd_ok H13_ok G18_ok

/-! spinnakerref1.Most -/
def F14 : FCfg := ⟨keepAt [(0, [1]), (1, [1, 5]), (2, [2]), (3, [2])], loopAt [], []⟩
theorem S.rcmost_k {R : Type} (c : Cf) (k : AVal → List Blk → Option R) : fnEval tis F14 0 G13 Try.f14 [.agg (cfA c)] [] k =
  (bif decide (c.max = 0) then
   k (.int .i64 100) ([])
 else
   k (.int .i64 c.max) ([])) := by kernel_rfl
noncomputable def S.rcmost (c : Cf) : Int :=
  bif decide (c.max = 0) then
   (100)
 else
   (c.max)
noncomputable def S.rcmost_gk {R : Type} (c : Cf) (k : AVal → List Blk → Option R) : (Int) → Option R := (fun v : Int => k (.int .i64 v) [])
theorem S.rcmost_v {R : Type} (c : Cf) (k : AVal → List Blk → Option R) : fnEval tis F14 0 G13 Try.f14 [.agg (cfA c)] [] k = k (.int .i64 (S.rcmost c)) [] :=
  (S.rcmost_k c k).trans (bif_lift (f := (S.rcmost_gk c k)) rfl rfl)
noncomputable def H14 : Hnd := fun R args σ k => match args, σ with
  | [.agg [.int .i64 target_, .int .i64 util_, .int .i64 stable_, .int .i64 panic_, .int .i64 grain_, .int .i64 threshold_, .int .i64 up_, .int .i64 down_, .int .i64 min_, .int .i64 max_, .int .i64 initial_, .int .i64 grace_, .int .i64 delay_, .int .i64 burst_, .int .i64 limit_, .int .i64 queue_, .int .i64 timeout_, .int .i64 ready_, .int .i64 subset_, .int .i64 sample_]], [] => k (.int .i64 (S.rcmost ⟨target_, util_, stable_, panic_, grain_, threshold_, up_, down_, min_, max_, initial_, grace_, delay_, burst_, limit_, queue_, timeout_, ready_, subset_, sample_⟩)) []
  | _, _ => none
theorem H14_ok : HndOk Try.prog 14 H14 := hnd_ok tis tisOk mixOk G13_ok F14 Try.func14 rfl (by
  intro R args σ k r h
  unfold H14 at h
  split at h
  · rename_i target_ util_ stable_ panic_ grain_ threshold_ up_ down_ min_ max_ initial_ grace_ delay_ burst_ limit_ queue_ timeout_ ready_ subset_ sample_; exact ⟨0, (S.rcmost_v ⟨target_, util_, stable_, panic_, grain_, threshold_, up_, down_, min_, max_, initial_, grace_, delay_, burst_, limit_, queue_, timeout_, ready_, subset_, sample_⟩ _).trans h⟩
  · cases h)
noncomputable def G14 : Env := Env.add 14 H14 G13
theorem G14_ok : EnvOk Try.prog G14 := envAdd_ok H14_ok G13_ok

/-! conf.Per -/
def F63 : FCfg := ⟨keepAt [(0, [1]), (1, [3]), (2, [2])], loopAt [], []⟩
theorem S.per_k {R : Type} (c : Cf) (k : AVal → List Blk → Option R) : fnEval tis F63 0 G14 Try.f63 [.agg (cfA c)] [] k =
  ((optK (S.mmul c.target c.util) fun o2 =>
   k (.int .i64 (if 1 > o2.1 then 1 else o2.1)) ([]))) := by kernel_rfl
noncomputable def S.per (c : Cf) : Option (Int) :=
  (optK (S.mmul c.target c.util) fun o2 =>
   some (if 1 > o2.1 then 1 else o2.1))
noncomputable def S.per_gk {R : Type} (c : Cf) (k : AVal → List Blk → Option R) : (Int) → Option R := (fun v : Int => k (.int .i64 v) [])
theorem S.per_v {R : Type} (c : Cf) (k : AVal → List Blk → Option R) : fnEval tis F63 0 G14 Try.f63 [.agg (cfA c)] [] k = oK (fun v : Int => k (.int .i64 v) []) (S.per c) :=
  (S.per_k c k).trans (opt_lift fun o2 => rfl)
noncomputable def H63 : Hnd := fun R args σ k => match args, σ with
  | [.agg [.int .i64 target_, .int .i64 util_, .int .i64 stable_, .int .i64 panic_, .int .i64 grain_, .int .i64 threshold_, .int .i64 up_, .int .i64 down_, .int .i64 min_, .int .i64 max_, .int .i64 initial_, .int .i64 grace_, .int .i64 delay_, .int .i64 burst_, .int .i64 limit_, .int .i64 queue_, .int .i64 timeout_, .int .i64 ready_, .int .i64 subset_, .int .i64 sample_]], [] => oK (fun v : Int => k (.int .i64 v) []) (S.per ⟨target_, util_, stable_, panic_, grain_, threshold_, up_, down_, min_, max_, initial_, grace_, delay_, burst_, limit_, queue_, timeout_, ready_, subset_, sample_⟩)
  | _, _ => none
theorem H63_ok : HndOk Try.prog 63 H63 := hnd_ok tis tisOk mixOk G14_ok F63 Try.func63 rfl (by
  intro R args σ k r h
  unfold H63 at h
  split at h
  · rename_i target_ util_ stable_ panic_ grain_ threshold_ up_ down_ min_ max_ initial_ grace_ delay_ burst_ limit_ queue_ timeout_ ready_ subset_ sample_; exact ⟨0, (S.per_v ⟨target_, util_, stable_, panic_, grain_, threshold_, up_, down_, min_, max_, initial_, grace_, delay_, burst_, limit_, queue_, timeout_, ready_, subset_, sample_⟩ _).trans h⟩
  · cases h)
noncomputable def G63 : Env := Env.add 63 H63 G14
theorem G63_ok : EnvOk Try.prog G63 := envAdd_ok H63_ok G14_ok

/-! conf.Most -/
def F33 : FCfg := ⟨keepAt [(0, [1]), (1, [1, 5]), (2, [2]), (3, [2])], loopAt [], []⟩
theorem S.cmost_k {R : Type} (c : Cf) (k : AVal → List Blk → Option R) : fnEval tis F33 0 G63 Try.f33 [.agg (cfA c)] [] k =
  (bif decide (c.max = 0) then
   k (.int .i64 100) ([])
 else
   k (.int .i64 c.max) ([])) := by kernel_rfl
noncomputable def S.cmost (c : Cf) : Int :=
  bif decide (c.max = 0) then
   (100)
 else
   (c.max)
noncomputable def S.cmost_gk {R : Type} (c : Cf) (k : AVal → List Blk → Option R) : (Int) → Option R := (fun v : Int => k (.int .i64 v) [])
theorem S.cmost_v {R : Type} (c : Cf) (k : AVal → List Blk → Option R) : fnEval tis F33 0 G63 Try.f33 [.agg (cfA c)] [] k = k (.int .i64 (S.cmost c)) [] :=
  (S.cmost_k c k).trans (bif_lift (f := (S.cmost_gk c k)) rfl rfl)
noncomputable def H33 : Hnd := fun R args σ k => match args, σ with
  | [.agg [.int .i64 target_, .int .i64 util_, .int .i64 stable_, .int .i64 panic_, .int .i64 grain_, .int .i64 threshold_, .int .i64 up_, .int .i64 down_, .int .i64 min_, .int .i64 max_, .int .i64 initial_, .int .i64 grace_, .int .i64 delay_, .int .i64 burst_, .int .i64 limit_, .int .i64 queue_, .int .i64 timeout_, .int .i64 ready_, .int .i64 subset_, .int .i64 sample_]], [] => k (.int .i64 (S.cmost ⟨target_, util_, stable_, panic_, grain_, threshold_, up_, down_, min_, max_, initial_, grace_, delay_, burst_, limit_, queue_, timeout_, ready_, subset_, sample_⟩)) []
  | _, _ => none
theorem H33_ok : HndOk Try.prog 33 H33 := hnd_ok tis tisOk mixOk G63_ok F33 Try.func33 rfl (by
  intro R args σ k r h
  unfold H33 at h
  split at h
  · rename_i target_ util_ stable_ panic_ grain_ threshold_ up_ down_ min_ max_ initial_ grace_ delay_ burst_ limit_ queue_ timeout_ ready_ subset_ sample_; exact ⟨0, (S.cmost_v ⟨target_, util_, stable_, panic_, grain_, threshold_, up_, down_, min_, max_, initial_, grace_, delay_, burst_, limit_, queue_, timeout_, ready_, subset_, sample_⟩ _).trans h⟩
  · cases h)
noncomputable def G33 : Env := Env.add 33 H33 G63
theorem G33_ok : EnvOk Try.prog G33 := envAdd_ok H33_ok G63_ok
end Go.Proofs.Ytdgipcjigbagfaa.AB
