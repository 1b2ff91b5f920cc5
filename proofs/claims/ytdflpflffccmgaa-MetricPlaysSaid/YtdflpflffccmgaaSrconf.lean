/- The document's functions of the settings, as plain functions. -/
import Derived.Test.YtdflpflffccmgaaSconf
namespace Go.Proofs.Ytdflpflffccmgaa.AB
set_option linter.unusedVariables false

/-! spinnakerref1.in -/
def F64 : FCfg := ⟨keepAt [(0, [0, 1, 2]), (1, [6])], loopAt [], []⟩
theorem S.rin_k {R : Type} (n lo hi : Int) (k : AVal → List Blk → Option R) : fnEval tis F64 0 G30 Try.f64 [.int .i64 n, .int .i64 lo, .int .i64 hi] [] k =
  (bif decide (lo ≤ n) then
   k (.bool (decide (n ≤ hi))) ([])
 else
   k (.bool false) ([])) := by kernel_rfl
noncomputable def S.rin (n lo hi : Int) : Bool :=
  bif decide (lo ≤ n) then
   (decide (n ≤ hi))
 else
   (false)
noncomputable def S.rin_gk {R : Type} (n lo hi : Int) (k : AVal → List Blk → Option R) : (Bool) → Option R := (fun v : Bool => k (.bool v) [])
theorem S.rin_v {R : Type} (n lo hi : Int) (k : AVal → List Blk → Option R) : fnEval tis F64 0 G30 Try.f64 [.int .i64 n, .int .i64 lo, .int .i64 hi] [] k = k (.bool (S.rin n lo hi)) [] :=
  (S.rin_k n lo hi k).trans (bif_lift (f := (S.rin_gk n lo hi k)) rfl rfl)
noncomputable def H64 : Hnd := fun R args σ k => match args, σ with
  | [.int .i64 n, .int .i64 lo, .int .i64 hi], [] => k (.bool (S.rin n lo hi)) []
  | _, _ => none
theorem H64_ok : HndOk Try.prog 64 H64 := hnd_ok tis tisOk mixOk G30_ok F64 Try.func64 rfl (by
  intro R args σ k r h
  unfold H64 at h
  split at h
  · rename_i n lo hi; exact ⟨0, (S.rin_v n lo hi _).trans h⟩
  · cases h)
noncomputable def G64 : Env := Env.add 64 H64 G30
theorem G64_ok : EnvOk Try.prog G64 := envAdd_ok H64_ok G30_ok

/-! spinnakerref1.Values -/
def F63 : FCfg := ⟨keepAt [(0, [1]), (1, [2])], loopAt [], []⟩
theorem S.rvalues_k {R : Type} (c : Cf) (k : AVal → List Blk → Option R) : fnEval tis F63 0 G64 Try.f63 [.agg (cfA c)] [] k =
  (k (.slice 1 0 0 20 Option.none) ([.rows (Cd.int .i64) [c.target, c.util, c.stable, c.panic, c.grain, c.threshold, c.up, c.down, c.min, c.max, c.initial, c.grace, c.delay, c.burst, c.limit, c.queue, c.timeout, c.ready, c.subset, c.sample] false])) := by kernel_rfl
noncomputable def S.rvalues (c : Cf) : List Int :=
  ([c.target, c.util, c.stable, c.panic, c.grain, c.threshold, c.up, c.down, c.min, c.max, c.initial, c.grace, c.delay, c.burst, c.limit, c.queue, c.timeout, c.ready, c.subset, c.sample])
theorem S.rvalues_v {R : Type} (c : Cf) (k : AVal → List Blk → Option R) : fnEval tis F63 0 G64 Try.f63 [.agg (cfA c)] [] k = k (.slice 1 0 (0) (20) none) [(.rows (Cd.int .i64) (S.rvalues c) false)] :=
  (S.rvalues_k c k).trans rfl
noncomputable def H63 : Hnd := fun R args σ k => match args, σ with
  | [.agg [.int .i64 target_, .int .i64 util_, .int .i64 stable_, .int .i64 panic_, .int .i64 grain_, .int .i64 threshold_, .int .i64 up_, .int .i64 down_, .int .i64 min_, .int .i64 max_, .int .i64 initial_, .int .i64 grace_, .int .i64 delay_, .int .i64 burst_, .int .i64 limit_, .int .i64 queue_, .int .i64 timeout_, .int .i64 ready_, .int .i64 subset_, .int .i64 sample_]], [] => k (.slice 1 0 (0) (20) none) [(.rows (Cd.int .i64) (S.rvalues ⟨target_, util_, stable_, panic_, grain_, threshold_, up_, down_, min_, max_, initial_, grace_, delay_, burst_, limit_, queue_, timeout_, ready_, subset_, sample_⟩) false)]
  | _, _ => none
theorem H63_ok : HndOk Try.prog 63 H63 := hnd_ok tis tisOk mixOk G64_ok F63 Try.func63 rfl (by
  intro R args σ k r h
  unfold H63 at h
  split at h
  · rename_i target_ util_ stable_ panic_ grain_ threshold_ up_ down_ min_ max_ initial_ grace_ delay_ burst_ limit_ queue_ timeout_ ready_ subset_ sample_; exact ⟨0, (S.rvalues_v ⟨target_, util_, stable_, panic_, grain_, threshold_, up_, down_, min_, max_, initial_, grace_, delay_, burst_, limit_, queue_, timeout_, ready_, subset_, sample_⟩ _).trans h⟩
  · cases h)
noncomputable def G63 : Env := Env.add 63 H63 G64
theorem G63_ok : EnvOk Try.prog G63 := envAdd_ok H63_ok G64_ok

/-! spinnakerref1.Names -/
def F65 : FCfg := ⟨keepAt [(0, []), (1, [0])], loopAt [], []⟩
theorem S.rnames_k {R : Type}  (k : AVal → List Blk → Option R) : fnEval tis F65 0 G63 Try.f65 [] [] k =
  (k (.slice 1 0 0 20 Option.none) ([.rows Cd.str [bs [116, 97, 114, 103, 101, 116], bs [117, 116, 105, 108], bs [115, 116, 97, 98, 108, 101], bs [112, 97, 110, 105, 99], bs [103, 114, 97, 105, 110], bs [116, 104, 114, 101, 115, 104, 111, 108, 100], bs [117, 112], bs [100, 111, 119, 110], bs [109, 105, 110], bs [109, 97, 120], bs [105, 110, 105, 116, 105, 97, 108], bs [103, 114, 97, 99, 101], bs [100, 101, 108, 97, 121], bs [98, 117, 114, 115, 116], bs [108, 105, 109, 105, 116], bs [113, 117, 101, 117, 101], bs [116, 105, 109, 101, 111, 117, 116], bs [114, 101, 97, 100, 121], bs [115, 117, 98, 115, 101, 116], bs [115, 97, 109, 112, 108, 101]] false])) := by kernel_rfl
noncomputable def S.rnames  : List ByteArray :=
  ([bs [116, 97, 114, 103, 101, 116], bs [117, 116, 105, 108], bs [115, 116, 97, 98, 108, 101], bs [112, 97, 110, 105, 99], bs [103, 114, 97, 105, 110], bs [116, 104, 114, 101, 115, 104, 111, 108, 100], bs [117, 112], bs [100, 111, 119, 110], bs [109, 105, 110], bs [109, 97, 120], bs [105, 110, 105, 116, 105, 97, 108], bs [103, 114, 97, 99, 101], bs [100, 101, 108, 97, 121], bs [98, 117, 114, 115, 116], bs [108, 105, 109, 105, 116], bs [113, 117, 101, 117, 101], bs [116, 105, 109, 101, 111, 117, 116], bs [114, 101, 97, 100, 121], bs [115, 117, 98, 115, 101, 116], bs [115, 97, 109, 112, 108, 101]])
theorem S.rnames_v {R : Type}  (k : AVal → List Blk → Option R) : fnEval tis F65 0 G63 Try.f65 [] [] k = k (.slice 1 0 (0) (20) none) [(.rows (Cd.str) (S.rnames) false)] :=
  (S.rnames_k k).trans rfl
noncomputable def H65 : Hnd := fun R args σ k => match args, σ with
  | [], [] => k (.slice 1 0 (0) (20) none) [(.rows (Cd.str) (S.rnames) false)]
  | _, _ => none
theorem H65_ok : HndOk Try.prog 65 H65 := hnd_ok tis tisOk mixOk G63_ok F65 Try.func65 rfl (by
  intro R args σ k r h
  unfold H65 at h
  split at h
  · exact ⟨0, (S.rnames_v _).trans h⟩
  · cases h)
noncomputable def G65 : Env := Env.add 65 H65 G63
theorem G65_ok : EnvOk Try.prog G65 := envAdd_ok H65_ok G63_ok

/-! spinnakerref1.Wrong -/
def F47 : FCfg := ⟨keepAt [(0, [1]), (1, [1, 3]), (2, [1, 3, 4]), (3, [1, 3, 4, 11]), (4, [3, 4]), (5, [5]), (6, [5, 6]), (7, [5, 6, 121]), (8, [5, 6]), (9, [5, 6, 128]), (10, [2]), (11, [2])], loopAt [(7, [5, 6], [])], []⟩
theorem S.rwrong_k {R : Type} (c : Cf) (k : AVal → List Blk → Option R) : fnEval tis F47 40 G65 Try.f47 [.agg (cfA c)] [] k =
  (bif decide (0 < c.max) then
   bif decide (c.max = 0) then
   bif decide (c.burst = -1000) then
   bif !S.rin c.target 10 1000000 then
   k (.str (bs [116, 97, 114, 103, 101, 116])) ([])
 else
   bif !S.rin c.util 100 1000 then
   k (.str (bs [117, 116, 105, 108])) ([])
 else
   bif !S.rin c.stable 6 600 then
   k (.str (bs [115, 116, 97, 98, 108, 101])) ([])
 else
   bif !S.rin c.panic 1 c.stable then
   k (.str (bs [112, 97, 110, 105, 99])) ([])
 else
   bif !S.rin c.grain 1 c.panic then
   k (.str (bs [103, 114, 97, 105, 110])) ([])
 else
   bif !S.rin c.threshold 1100 10000 then
   k (.str (bs [116, 104, 114, 101, 115, 104, 111, 108, 100])) ([])
 else
   bif !S.rin c.up 1001 1000000 then
   k (.str (bs [117, 112])) ([])
 else
   bif !S.rin c.down 1001 1000000 then
   k (.str (bs [100, 111, 119, 110])) ([])
 else
   bif !S.rin c.min 0 100 then
   k (.str (bs [109, 105, 110])) ([])
 else
   bif !S.rin c.initial 0 c.max then
   k (.str (bs [105, 110, 105, 116, 105, 97, 108])) ([])
 else
   bif !S.rin c.grace 0 600 then
   k (.str (bs [103, 114, 97, 99, 101])) ([])
 else
   bif !S.rin c.delay 0 600 then
   k (.str (bs [100, 101, 108, 97, 121])) ([])
 else
   bif !S.rin c.limit 1 1000 then
   k (.str (bs [108, 105, 109, 105, 116])) ([])
 else
   bif !S.rin c.queue 0 200 then
   k (.str (bs [113, 117, 101, 117, 101])) ([])
 else
   bif !S.rin c.timeout 1 10000 then
   k (.str (bs [116, 105, 109, 101, 111, 117, 116])) ([])
 else
   bif !S.rin c.ready 0 100 then
   k (.str (bs [114, 101, 97, 100, 121])) ([])
 else
   bif !S.rin c.subset 0 100 then
   k (.str (bs [115, 117, 98, 115, 101, 116])) ([])
 else
   bif !S.rin c.sample 0 100 then
   k (.str (bs [115, 97, 109, 112, 108, 101])) ([])
 else
   k (.str (bs [])) ([])
 else
   bif !S.rin c.target 10 1000000 then
   k (.str (bs [116, 97, 114, 103, 101, 116])) ([])
 else
   bif !S.rin c.util 100 1000 then
   k (.str (bs [117, 116, 105, 108])) ([])
 else
   bif !S.rin c.stable 6 600 then
   k (.str (bs [115, 116, 97, 98, 108, 101])) ([])
 else
   bif !S.rin c.panic 1 c.stable then
   k (.str (bs [112, 97, 110, 105, 99])) ([])
 else
   bif !S.rin c.grain 1 c.panic then
   k (.str (bs [103, 114, 97, 105, 110])) ([])
 else
   bif !S.rin c.threshold 1100 10000 then
   k (.str (bs [116, 104, 114, 101, 115, 104, 111, 108, 100])) ([])
 else
   bif !S.rin c.up 1001 1000000 then
   k (.str (bs [117, 112])) ([])
 else
   bif !S.rin c.down 1001 1000000 then
   k (.str (bs [100, 111, 119, 110])) ([])
 else
   bif !S.rin c.min 0 100 then
   k (.str (bs [109, 105, 110])) ([])
 else
   bif !S.rin c.initial 0 c.max then
   k (.str (bs [105, 110, 105, 116, 105, 97, 108])) ([])
 else
   bif !S.rin c.grace 0 600 then
   k (.str (bs [103, 114, 97, 99, 101])) ([])
 else
   bif !S.rin c.delay 0 600 then
   k (.str (bs [100, 101, 108, 97, 121])) ([])
 else
   bif !S.rin c.burst 0 100000000 then
   k (.str (bs [98, 117, 114, 115, 116])) ([])
 else
   bif !S.rin c.limit 1 1000 then
   k (.str (bs [108, 105, 109, 105, 116])) ([])
 else
   bif !S.rin c.queue 0 200 then
   k (.str (bs [113, 117, 101, 117, 101])) ([])
 else
   bif !S.rin c.timeout 1 10000 then
   k (.str (bs [116, 105, 109, 101, 111, 117, 116])) ([])
 else
   bif !S.rin c.ready 0 100 then
   k (.str (bs [114, 101, 97, 100, 121])) ([])
 else
   bif !S.rin c.subset 0 100 then
   k (.str (bs [115, 117, 98, 115, 101, 116])) ([])
 else
   bif !S.rin c.sample 0 100 then
   k (.str (bs [115, 97, 109, 112, 108, 101])) ([])
 else
   k (.str (bs [])) ([])
 else
   bif decide (c.burst = -1000) then
   bif !S.rin c.target 10 1000000 then
   k (.str (bs [116, 97, 114, 103, 101, 116])) ([])
 else
   bif !S.rin c.util 100 1000 then
   k (.str (bs [117, 116, 105, 108])) ([])
 else
   bif !S.rin c.stable 6 600 then
   k (.str (bs [115, 116, 97, 98, 108, 101])) ([])
 else
   bif !S.rin c.panic 1 c.stable then
   k (.str (bs [112, 97, 110, 105, 99])) ([])
 else
   bif !S.rin c.grain 1 c.panic then
   k (.str (bs [103, 114, 97, 105, 110])) ([])
 else
   bif !S.rin c.threshold 1100 10000 then
   k (.str (bs [116, 104, 114, 101, 115, 104, 111, 108, 100])) ([])
 else
   bif !S.rin c.up 1001 1000000 then
   k (.str (bs [117, 112])) ([])
 else
   bif !S.rin c.down 1001 1000000 then
   k (.str (bs [100, 111, 119, 110])) ([])
 else
   bif !S.rin c.min 0 100 then
   k (.str (bs [109, 105, 110])) ([])
 else
   bif !S.rin c.max (if 1 > c.min then 1 else c.min) 100 then
   k (.str (bs [109, 97, 120])) ([])
 else
   bif !S.rin c.initial 0 c.max then
   k (.str (bs [105, 110, 105, 116, 105, 97, 108])) ([])
 else
   bif !S.rin c.grace 0 600 then
   k (.str (bs [103, 114, 97, 99, 101])) ([])
 else
   bif !S.rin c.delay 0 600 then
   k (.str (bs [100, 101, 108, 97, 121])) ([])
 else
   bif !S.rin c.limit 1 1000 then
   k (.str (bs [108, 105, 109, 105, 116])) ([])
 else
   bif !S.rin c.queue 0 200 then
   k (.str (bs [113, 117, 101, 117, 101])) ([])
 else
   bif !S.rin c.timeout 1 10000 then
   k (.str (bs [116, 105, 109, 101, 111, 117, 116])) ([])
 else
   bif !S.rin c.ready 0 100 then
   k (.str (bs [114, 101, 97, 100, 121])) ([])
 else
   bif !S.rin c.subset 0 100 then
   k (.str (bs [115, 117, 98, 115, 101, 116])) ([])
 else
   bif !S.rin c.sample 0 100 then
   k (.str (bs [115, 97, 109, 112, 108, 101])) ([])
 else
   k (.str (bs [])) ([])
 else
   bif !S.rin c.target 10 1000000 then
   k (.str (bs [116, 97, 114, 103, 101, 116])) ([])
 else
   bif !S.rin c.util 100 1000 then
   k (.str (bs [117, 116, 105, 108])) ([])
 else
   bif !S.rin c.stable 6 600 then
   k (.str (bs [115, 116, 97, 98, 108, 101])) ([])
 else
   bif !S.rin c.panic 1 c.stable then
   k (.str (bs [112, 97, 110, 105, 99])) ([])
 else
   bif !S.rin c.grain 1 c.panic then
   k (.str (bs [103, 114, 97, 105, 110])) ([])
 else
   bif !S.rin c.threshold 1100 10000 then
   k (.str (bs [116, 104, 114, 101, 115, 104, 111, 108, 100])) ([])
 else
   bif !S.rin c.up 1001 1000000 then
   k (.str (bs [117, 112])) ([])
 else
   bif !S.rin c.down 1001 1000000 then
   k (.str (bs [100, 111, 119, 110])) ([])
 else
   bif !S.rin c.min 0 100 then
   k (.str (bs [109, 105, 110])) ([])
 else
   bif !S.rin c.max (if 1 > c.min then 1 else c.min) 100 then
   k (.str (bs [109, 97, 120])) ([])
 else
   bif !S.rin c.initial 0 c.max then
   k (.str (bs [105, 110, 105, 116, 105, 97, 108])) ([])
 else
   bif !S.rin c.grace 0 600 then
   k (.str (bs [103, 114, 97, 99, 101])) ([])
 else
   bif !S.rin c.delay 0 600 then
   k (.str (bs [100, 101, 108, 97, 121])) ([])
 else
   bif !S.rin c.burst 0 100000000 then
   k (.str (bs [98, 117, 114, 115, 116])) ([])
 else
   bif !S.rin c.limit 1 1000 then
   k (.str (bs [108, 105, 109, 105, 116])) ([])
 else
   bif !S.rin c.queue 0 200 then
   k (.str (bs [113, 117, 101, 117, 101])) ([])
 else
   bif !S.rin c.timeout 1 10000 then
   k (.str (bs [116, 105, 109, 101, 111, 117, 116])) ([])
 else
   bif !S.rin c.ready 0 100 then
   k (.str (bs [114, 101, 97, 100, 121])) ([])
 else
   bif !S.rin c.subset 0 100 then
   k (.str (bs [115, 117, 98, 115, 101, 116])) ([])
 else
   bif !S.rin c.sample 0 100 then
   k (.str (bs [115, 97, 109, 112, 108, 101])) ([])
 else
   k (.str (bs [])) ([])
 else
   bif decide (c.max = 0) then
   bif decide (c.burst = -1000) then
   bif !S.rin c.target 10 1000000 then
   k (.str (bs [116, 97, 114, 103, 101, 116])) ([])
 else
   bif !S.rin c.util 100 1000 then
   k (.str (bs [117, 116, 105, 108])) ([])
 else
   bif !S.rin c.stable 6 600 then
   k (.str (bs [115, 116, 97, 98, 108, 101])) ([])
 else
   bif !S.rin c.panic 1 c.stable then
   k (.str (bs [112, 97, 110, 105, 99])) ([])
 else
   bif !S.rin c.grain 1 c.panic then
   k (.str (bs [103, 114, 97, 105, 110])) ([])
 else
   bif !S.rin c.threshold 1100 10000 then
   k (.str (bs [116, 104, 114, 101, 115, 104, 111, 108, 100])) ([])
 else
   bif !S.rin c.up 1001 1000000 then
   k (.str (bs [117, 112])) ([])
 else
   bif !S.rin c.down 1001 1000000 then
   k (.str (bs [100, 111, 119, 110])) ([])
 else
   bif !S.rin c.min 0 100 then
   k (.str (bs [109, 105, 110])) ([])
 else
   bif !S.rin c.initial 0 100 then
   k (.str (bs [105, 110, 105, 116, 105, 97, 108])) ([])
 else
   bif !S.rin c.grace 0 600 then
   k (.str (bs [103, 114, 97, 99, 101])) ([])
 else
   bif !S.rin c.delay 0 600 then
   k (.str (bs [100, 101, 108, 97, 121])) ([])
 else
   bif !S.rin c.limit 1 1000 then
   k (.str (bs [108, 105, 109, 105, 116])) ([])
 else
   bif !S.rin c.queue 0 200 then
   k (.str (bs [113, 117, 101, 117, 101])) ([])
 else
   bif !S.rin c.timeout 1 10000 then
   k (.str (bs [116, 105, 109, 101, 111, 117, 116])) ([])
 else
   bif !S.rin c.ready 0 100 then
   k (.str (bs [114, 101, 97, 100, 121])) ([])
 else
   bif !S.rin c.subset 0 100 then
   k (.str (bs [115, 117, 98, 115, 101, 116])) ([])
 else
   bif !S.rin c.sample 0 100 then
   k (.str (bs [115, 97, 109, 112, 108, 101])) ([])
 else
   k (.str (bs [])) ([])
 else
   bif !S.rin c.target 10 1000000 then
   k (.str (bs [116, 97, 114, 103, 101, 116])) ([])
 else
   bif !S.rin c.util 100 1000 then
   k (.str (bs [117, 116, 105, 108])) ([])
 else
   bif !S.rin c.stable 6 600 then
   k (.str (bs [115, 116, 97, 98, 108, 101])) ([])
 else
   bif !S.rin c.panic 1 c.stable then
   k (.str (bs [112, 97, 110, 105, 99])) ([])
 else
   bif !S.rin c.grain 1 c.panic then
   k (.str (bs [103, 114, 97, 105, 110])) ([])
 else
   bif !S.rin c.threshold 1100 10000 then
   k (.str (bs [116, 104, 114, 101, 115, 104, 111, 108, 100])) ([])
 else
   bif !S.rin c.up 1001 1000000 then
   k (.str (bs [117, 112])) ([])
 else
   bif !S.rin c.down 1001 1000000 then
   k (.str (bs [100, 111, 119, 110])) ([])
 else
   bif !S.rin c.min 0 100 then
   k (.str (bs [109, 105, 110])) ([])
 else
   bif !S.rin c.initial 0 100 then
   k (.str (bs [105, 110, 105, 116, 105, 97, 108])) ([])
 else
   bif !S.rin c.grace 0 600 then
   k (.str (bs [103, 114, 97, 99, 101])) ([])
 else
   bif !S.rin c.delay 0 600 then
   k (.str (bs [100, 101, 108, 97, 121])) ([])
 else
   bif !S.rin c.burst 0 100000000 then
   k (.str (bs [98, 117, 114, 115, 116])) ([])
 else
   bif !S.rin c.limit 1 1000 then
   k (.str (bs [108, 105, 109, 105, 116])) ([])
 else
   bif !S.rin c.queue 0 200 then
   k (.str (bs [113, 117, 101, 117, 101])) ([])
 else
   bif !S.rin c.timeout 1 10000 then
   k (.str (bs [116, 105, 109, 101, 111, 117, 116])) ([])
 else
   bif !S.rin c.ready 0 100 then
   k (.str (bs [114, 101, 97, 100, 121])) ([])
 else
   bif !S.rin c.subset 0 100 then
   k (.str (bs [115, 117, 98, 115, 101, 116])) ([])
 else
   bif !S.rin c.sample 0 100 then
   k (.str (bs [115, 97, 109, 112, 108, 101])) ([])
 else
   k (.str (bs [])) ([])
 else
   bif decide (c.burst = -1000) then
   bif !S.rin c.target 10 1000000 then
   k (.str (bs [116, 97, 114, 103, 101, 116])) ([])
 else
   bif !S.rin c.util 100 1000 then
   k (.str (bs [117, 116, 105, 108])) ([])
 else
   bif !S.rin c.stable 6 600 then
   k (.str (bs [115, 116, 97, 98, 108, 101])) ([])
 else
   bif !S.rin c.panic 1 c.stable then
   k (.str (bs [112, 97, 110, 105, 99])) ([])
 else
   bif !S.rin c.grain 1 c.panic then
   k (.str (bs [103, 114, 97, 105, 110])) ([])
 else
   bif !S.rin c.threshold 1100 10000 then
   k (.str (bs [116, 104, 114, 101, 115, 104, 111, 108, 100])) ([])
 else
   bif !S.rin c.up 1001 1000000 then
   k (.str (bs [117, 112])) ([])
 else
   bif !S.rin c.down 1001 1000000 then
   k (.str (bs [100, 111, 119, 110])) ([])
 else
   bif !S.rin c.min 0 100 then
   k (.str (bs [109, 105, 110])) ([])
 else
   bif !S.rin c.max (if 1 > c.min then 1 else c.min) 100 then
   k (.str (bs [109, 97, 120])) ([])
 else
   bif !S.rin c.initial 0 100 then
   k (.str (bs [105, 110, 105, 116, 105, 97, 108])) ([])
 else
   bif !S.rin c.grace 0 600 then
   k (.str (bs [103, 114, 97, 99, 101])) ([])
 else
   bif !S.rin c.delay 0 600 then
   k (.str (bs [100, 101, 108, 97, 121])) ([])
 else
   bif !S.rin c.limit 1 1000 then
   k (.str (bs [108, 105, 109, 105, 116])) ([])
 else
   bif !S.rin c.queue 0 200 then
   k (.str (bs [113, 117, 101, 117, 101])) ([])
 else
   bif !S.rin c.timeout 1 10000 then
   k (.str (bs [116, 105, 109, 101, 111, 117, 116])) ([])
 else
   bif !S.rin c.ready 0 100 then
   k (.str (bs [114, 101, 97, 100, 121])) ([])
 else
   bif !S.rin c.subset 0 100 then
   k (.str (bs [115, 117, 98, 115, 101, 116])) ([])
 else
   bif !S.rin c.sample 0 100 then
   k (.str (bs [115, 97, 109, 112, 108, 101])) ([])
 else
   k (.str (bs [])) ([])
 else
   bif !S.rin c.target 10 1000000 then
   k (.str (bs [116, 97, 114, 103, 101, 116])) ([])
 else
   bif !S.rin c.util 100 1000 then
   k (.str (bs [117, 116, 105, 108])) ([])
 else
   bif !S.rin c.stable 6 600 then
   k (.str (bs [115, 116, 97, 98, 108, 101])) ([])
 else
   bif !S.rin c.panic 1 c.stable then
   k (.str (bs [112, 97, 110, 105, 99])) ([])
 else
   bif !S.rin c.grain 1 c.panic then
   k (.str (bs [103, 114, 97, 105, 110])) ([])
 else
   bif !S.rin c.threshold 1100 10000 then
   k (.str (bs [116, 104, 114, 101, 115, 104, 111, 108, 100])) ([])
 else
   bif !S.rin c.up 1001 1000000 then
   k (.str (bs [117, 112])) ([])
 else
   bif !S.rin c.down 1001 1000000 then
   k (.str (bs [100, 111, 119, 110])) ([])
 else
   bif !S.rin c.min 0 100 then
   k (.str (bs [109, 105, 110])) ([])
 else
   bif !S.rin c.max (if 1 > c.min then 1 else c.min) 100 then
   k (.str (bs [109, 97, 120])) ([])
 else
   bif !S.rin c.initial 0 100 then
   k (.str (bs [105, 110, 105, 116, 105, 97, 108])) ([])
 else
   bif !S.rin c.grace 0 600 then
   k (.str (bs [103, 114, 97, 99, 101])) ([])
 else
   bif !S.rin c.delay 0 600 then
   k (.str (bs [100, 101, 108, 97, 121])) ([])
 else
   bif !S.rin c.burst 0 100000000 then
   k (.str (bs [98, 117, 114, 115, 116])) ([])
 else
   bif !S.rin c.limit 1 1000 then
   k (.str (bs [108, 105, 109, 105, 116])) ([])
 else
   bif !S.rin c.queue 0 200 then
   k (.str (bs [113, 117, 101, 117, 101])) ([])
 else
   bif !S.rin c.timeout 1 10000 then
   k (.str (bs [116, 105, 109, 101, 111, 117, 116])) ([])
 else
   bif !S.rin c.ready 0 100 then
   k (.str (bs [114, 101, 97, 100, 121])) ([])
 else
   bif !S.rin c.subset 0 100 then
   k (.str (bs [115, 117, 98, 115, 101, 116])) ([])
 else
   bif !S.rin c.sample 0 100 then
   k (.str (bs [115, 97, 109, 112, 108, 101])) ([])
 else
   k (.str (bs [])) ([])) := by kernel_rfl
noncomputable def S.rwrong (c : Cf) : ByteArray :=
  bif decide (0 < c.max) then
   bif decide (c.max = 0) then
   bif decide (c.burst = -1000) then
   bif !S.rin c.target 10 1000000 then
   (bs [116, 97, 114, 103, 101, 116])
 else
   bif !S.rin c.util 100 1000 then
   (bs [117, 116, 105, 108])
 else
   bif !S.rin c.stable 6 600 then
   (bs [115, 116, 97, 98, 108, 101])
 else
   bif !S.rin c.panic 1 c.stable then
   (bs [112, 97, 110, 105, 99])
 else
   bif !S.rin c.grain 1 c.panic then
   (bs [103, 114, 97, 105, 110])
 else
   bif !S.rin c.threshold 1100 10000 then
   (bs [116, 104, 114, 101, 115, 104, 111, 108, 100])
 else
   bif !S.rin c.up 1001 1000000 then
   (bs [117, 112])
 else
   bif !S.rin c.down 1001 1000000 then
   (bs [100, 111, 119, 110])
 else
   bif !S.rin c.min 0 100 then
   (bs [109, 105, 110])
 else
   bif !S.rin c.initial 0 c.max then
   (bs [105, 110, 105, 116, 105, 97, 108])
 else
   bif !S.rin c.grace 0 600 then
   (bs [103, 114, 97, 99, 101])
 else
   bif !S.rin c.delay 0 600 then
   (bs [100, 101, 108, 97, 121])
 else
   bif !S.rin c.limit 1 1000 then
   (bs [108, 105, 109, 105, 116])
 else
   bif !S.rin c.queue 0 200 then
   (bs [113, 117, 101, 117, 101])
 else
   bif !S.rin c.timeout 1 10000 then
   (bs [116, 105, 109, 101, 111, 117, 116])
 else
   bif !S.rin c.ready 0 100 then
   (bs [114, 101, 97, 100, 121])
 else
   bif !S.rin c.subset 0 100 then
   (bs [115, 117, 98, 115, 101, 116])
 else
   bif !S.rin c.sample 0 100 then
   (bs [115, 97, 109, 112, 108, 101])
 else
   (bs [])
 else
   bif !S.rin c.target 10 1000000 then
   (bs [116, 97, 114, 103, 101, 116])
 else
   bif !S.rin c.util 100 1000 then
   (bs [117, 116, 105, 108])
 else
   bif !S.rin c.stable 6 600 then
   (bs [115, 116, 97, 98, 108, 101])
 else
   bif !S.rin c.panic 1 c.stable then
   (bs [112, 97, 110, 105, 99])
 else
   bif !S.rin c.grain 1 c.panic then
   (bs [103, 114, 97, 105, 110])
 else
   bif !S.rin c.threshold 1100 10000 then
   (bs [116, 104, 114, 101, 115, 104, 111, 108, 100])
 else
   bif !S.rin c.up 1001 1000000 then
   (bs [117, 112])
 else
   bif !S.rin c.down 1001 1000000 then
   (bs [100, 111, 119, 110])
 else
   bif !S.rin c.min 0 100 then
   (bs [109, 105, 110])
 else
   bif !S.rin c.initial 0 c.max then
   (bs [105, 110, 105, 116, 105, 97, 108])
 else
   bif !S.rin c.grace 0 600 then
   (bs [103, 114, 97, 99, 101])
 else
   bif !S.rin c.delay 0 600 then
   (bs [100, 101, 108, 97, 121])
 else
   bif !S.rin c.burst 0 100000000 then
   (bs [98, 117, 114, 115, 116])
 else
   bif !S.rin c.limit 1 1000 then
   (bs [108, 105, 109, 105, 116])
 else
   bif !S.rin c.queue 0 200 then
   (bs [113, 117, 101, 117, 101])
 else
   bif !S.rin c.timeout 1 10000 then
   (bs [116, 105, 109, 101, 111, 117, 116])
 else
   bif !S.rin c.ready 0 100 then
   (bs [114, 101, 97, 100, 121])
 else
   bif !S.rin c.subset 0 100 then
   (bs [115, 117, 98, 115, 101, 116])
 else
   bif !S.rin c.sample 0 100 then
   (bs [115, 97, 109, 112, 108, 101])
 else
   (bs [])
 else
   bif decide (c.burst = -1000) then
   bif !S.rin c.target 10 1000000 then
   (bs [116, 97, 114, 103, 101, 116])
 else
   bif !S.rin c.util 100 1000 then
   (bs [117, 116, 105, 108])
 else
   bif !S.rin c.stable 6 600 then
   (bs [115, 116, 97, 98, 108, 101])
 else
   bif !S.rin c.panic 1 c.stable then
   (bs [112, 97, 110, 105, 99])
 else
   bif !S.rin c.grain 1 c.panic then
   (bs [103, 114, 97, 105, 110])
 else
   bif !S.rin c.threshold 1100 10000 then
   (bs [116, 104, 114, 101, 115, 104, 111, 108, 100])
 else
   bif !S.rin c.up 1001 1000000 then
   (bs [117, 112])
 else
   bif !S.rin c.down 1001 1000000 then
   (bs [100, 111, 119, 110])
 else
   bif !S.rin c.min 0 100 then
   (bs [109, 105, 110])
 else
   bif !S.rin c.max (if 1 > c.min then 1 else c.min) 100 then
   (bs [109, 97, 120])
 else
   bif !S.rin c.initial 0 c.max then
   (bs [105, 110, 105, 116, 105, 97, 108])
 else
   bif !S.rin c.grace 0 600 then
   (bs [103, 114, 97, 99, 101])
 else
   bif !S.rin c.delay 0 600 then
   (bs [100, 101, 108, 97, 121])
 else
   bif !S.rin c.limit 1 1000 then
   (bs [108, 105, 109, 105, 116])
 else
   bif !S.rin c.queue 0 200 then
   (bs [113, 117, 101, 117, 101])
 else
   bif !S.rin c.timeout 1 10000 then
   (bs [116, 105, 109, 101, 111, 117, 116])
 else
   bif !S.rin c.ready 0 100 then
   (bs [114, 101, 97, 100, 121])
 else
   bif !S.rin c.subset 0 100 then
   (bs [115, 117, 98, 115, 101, 116])
 else
   bif !S.rin c.sample 0 100 then
   (bs [115, 97, 109, 112, 108, 101])
 else
   (bs [])
 else
   bif !S.rin c.target 10 1000000 then
   (bs [116, 97, 114, 103, 101, 116])
 else
   bif !S.rin c.util 100 1000 then
   (bs [117, 116, 105, 108])
 else
   bif !S.rin c.stable 6 600 then
   (bs [115, 116, 97, 98, 108, 101])
 else
   bif !S.rin c.panic 1 c.stable then
   (bs [112, 97, 110, 105, 99])
 else
   bif !S.rin c.grain 1 c.panic then
   (bs [103, 114, 97, 105, 110])
 else
   bif !S.rin c.threshold 1100 10000 then
   (bs [116, 104, 114, 101, 115, 104, 111, 108, 100])
 else
   bif !S.rin c.up 1001 1000000 then
   (bs [117, 112])
 else
   bif !S.rin c.down 1001 1000000 then
   (bs [100, 111, 119, 110])
 else
   bif !S.rin c.min 0 100 then
   (bs [109, 105, 110])
 else
   bif !S.rin c.max (if 1 > c.min then 1 else c.min) 100 then
   (bs [109, 97, 120])
 else
   bif !S.rin c.initial 0 c.max then
   (bs [105, 110, 105, 116, 105, 97, 108])
 else
   bif !S.rin c.grace 0 600 then
   (bs [103, 114, 97, 99, 101])
 else
   bif !S.rin c.delay 0 600 then
   (bs [100, 101, 108, 97, 121])
 else
   bif !S.rin c.burst 0 100000000 then
   (bs [98, 117, 114, 115, 116])
 else
   bif !S.rin c.limit 1 1000 then
   (bs [108, 105, 109, 105, 116])
 else
   bif !S.rin c.queue 0 200 then
   (bs [113, 117, 101, 117, 101])
 else
   bif !S.rin c.timeout 1 10000 then
   (bs [116, 105, 109, 101, 111, 117, 116])
 else
   bif !S.rin c.ready 0 100 then
   (bs [114, 101, 97, 100, 121])
 else
   bif !S.rin c.subset 0 100 then
   (bs [115, 117, 98, 115, 101, 116])
 else
   bif !S.rin c.sample 0 100 then
   (bs [115, 97, 109, 112, 108, 101])
 else
   (bs [])
 else
   bif decide (c.max = 0) then
   bif decide (c.burst = -1000) then
   bif !S.rin c.target 10 1000000 then
   (bs [116, 97, 114, 103, 101, 116])
 else
   bif !S.rin c.util 100 1000 then
   (bs [117, 116, 105, 108])
 else
   bif !S.rin c.stable 6 600 then
   (bs [115, 116, 97, 98, 108, 101])
 else
   bif !S.rin c.panic 1 c.stable then
   (bs [112, 97, 110, 105, 99])
 else
   bif !S.rin c.grain 1 c.panic then
   (bs [103, 114, 97, 105, 110])
 else
   bif !S.rin c.threshold 1100 10000 then
   (bs [116, 104, 114, 101, 115, 104, 111, 108, 100])
 else
   bif !S.rin c.up 1001 1000000 then
   (bs [117, 112])
 else
   bif !S.rin c.down 1001 1000000 then
   (bs [100, 111, 119, 110])
 else
   bif !S.rin c.min 0 100 then
   (bs [109, 105, 110])
 else
   bif !S.rin c.initial 0 100 then
   (bs [105, 110, 105, 116, 105, 97, 108])
 else
   bif !S.rin c.grace 0 600 then
   (bs [103, 114, 97, 99, 101])
 else
   bif !S.rin c.delay 0 600 then
   (bs [100, 101, 108, 97, 121])
 else
   bif !S.rin c.limit 1 1000 then
   (bs [108, 105, 109, 105, 116])
 else
   bif !S.rin c.queue 0 200 then
   (bs [113, 117, 101, 117, 101])
 else
   bif !S.rin c.timeout 1 10000 then
   (bs [116, 105, 109, 101, 111, 117, 116])
 else
   bif !S.rin c.ready 0 100 then
   (bs [114, 101, 97, 100, 121])
 else
   bif !S.rin c.subset 0 100 then
   (bs [115, 117, 98, 115, 101, 116])
 else
   bif !S.rin c.sample 0 100 then
   (bs [115, 97, 109, 112, 108, 101])
 else
   (bs [])
 else
   bif !S.rin c.target 10 1000000 then
   (bs [116, 97, 114, 103, 101, 116])
 else
   bif !S.rin c.util 100 1000 then
   (bs [117, 116, 105, 108])
 else
   bif !S.rin c.stable 6 600 then
   (bs [115, 116, 97, 98, 108, 101])
 else
   bif !S.rin c.panic 1 c.stable then
   (bs [112, 97, 110, 105, 99])
 else
   bif !S.rin c.grain 1 c.panic then
   (bs [103, 114, 97, 105, 110])
 else
   bif !S.rin c.threshold 1100 10000 then
   (bs [116, 104, 114, 101, 115, 104, 111, 108, 100])
 else
   bif !S.rin c.up 1001 1000000 then
   (bs [117, 112])
 else
   bif !S.rin c.down 1001 1000000 then
   (bs [100, 111, 119, 110])
 else
   bif !S.rin c.min 0 100 then
   (bs [109, 105, 110])
 else
   bif !S.rin c.initial 0 100 then
   (bs [105, 110, 105, 116, 105, 97, 108])
 else
   bif !S.rin c.grace 0 600 then
   (bs [103, 114, 97, 99, 101])
 else
   bif !S.rin c.delay 0 600 then
   (bs [100, 101, 108, 97, 121])
 else
   bif !S.rin c.burst 0 100000000 then
   (bs [98, 117, 114, 115, 116])
 else
   bif !S.rin c.limit 1 1000 then
   (bs [108, 105, 109, 105, 116])
 else
   bif !S.rin c.queue 0 200 then
   (bs [113, 117, 101, 117, 101])
 else
   bif !S.rin c.timeout 1 10000 then
   (bs [116, 105, 109, 101, 111, 117, 116])
 else
   bif !S.rin c.ready 0 100 then
   (bs [114, 101, 97, 100, 121])
 else
   bif !S.rin c.subset 0 100 then
   (bs [115, 117, 98, 115, 101, 116])
 else
   bif !S.rin c.sample 0 100 then
   (bs [115, 97, 109, 112, 108, 101])
 else
   (bs [])
 else
   bif decide (c.burst = -1000) then
   bif !S.rin c.target 10 1000000 then
   (bs [116, 97, 114, 103, 101, 116])
 else
   bif !S.rin c.util 100 1000 then
   (bs [117, 116, 105, 108])
 else
   bif !S.rin c.stable 6 600 then
   (bs [115, 116, 97, 98, 108, 101])
 else
   bif !S.rin c.panic 1 c.stable then
   (bs [112, 97, 110, 105, 99])
 else
   bif !S.rin c.grain 1 c.panic then
   (bs [103, 114, 97, 105, 110])
 else
   bif !S.rin c.threshold 1100 10000 then
   (bs [116, 104, 114, 101, 115, 104, 111, 108, 100])
 else
   bif !S.rin c.up 1001 1000000 then
   (bs [117, 112])
 else
   bif !S.rin c.down 1001 1000000 then
   (bs [100, 111, 119, 110])
 else
   bif !S.rin c.min 0 100 then
   (bs [109, 105, 110])
 else
   bif !S.rin c.max (if 1 > c.min then 1 else c.min) 100 then
   (bs [109, 97, 120])
 else
   bif !S.rin c.initial 0 100 then
   (bs [105, 110, 105, 116, 105, 97, 108])
 else
   bif !S.rin c.grace 0 600 then
   (bs [103, 114, 97, 99, 101])
 else
   bif !S.rin c.delay 0 600 then
   (bs [100, 101, 108, 97, 121])
 else
   bif !S.rin c.limit 1 1000 then
   (bs [108, 105, 109, 105, 116])
 else
   bif !S.rin c.queue 0 200 then
   (bs [113, 117, 101, 117, 101])
 else
   bif !S.rin c.timeout 1 10000 then
   (bs [116, 105, 109, 101, 111, 117, 116])
 else
   bif !S.rin c.ready 0 100 then
   (bs [114, 101, 97, 100, 121])
 else
   bif !S.rin c.subset 0 100 then
   (bs [115, 117, 98, 115, 101, 116])
 else
   bif !S.rin c.sample 0 100 then
   (bs [115, 97, 109, 112, 108, 101])
 else
   (bs [])
 else
   bif !S.rin c.target 10 1000000 then
   (bs [116, 97, 114, 103, 101, 116])
 else
   bif !S.rin c.util 100 1000 then
   (bs [117, 116, 105, 108])
 else
   bif !S.rin c.stable 6 600 then
   (bs [115, 116, 97, 98, 108, 101])
 else
   bif !S.rin c.panic 1 c.stable then
   (bs [112, 97, 110, 105, 99])
 else
   bif !S.rin c.grain 1 c.panic then
   (bs [103, 114, 97, 105, 110])
 else
   bif !S.rin c.threshold 1100 10000 then
   (bs [116, 104, 114, 101, 115, 104, 111, 108, 100])
 else
   bif !S.rin c.up 1001 1000000 then
   (bs [117, 112])
 else
   bif !S.rin c.down 1001 1000000 then
   (bs [100, 111, 119, 110])
 else
   bif !S.rin c.min 0 100 then
   (bs [109, 105, 110])
 else
   bif !S.rin c.max (if 1 > c.min then 1 else c.min) 100 then
   (bs [109, 97, 120])
 else
   bif !S.rin c.initial 0 100 then
   (bs [105, 110, 105, 116, 105, 97, 108])
 else
   bif !S.rin c.grace 0 600 then
   (bs [103, 114, 97, 99, 101])
 else
   bif !S.rin c.delay 0 600 then
   (bs [100, 101, 108, 97, 121])
 else
   bif !S.rin c.burst 0 100000000 then
   (bs [98, 117, 114, 115, 116])
 else
   bif !S.rin c.limit 1 1000 then
   (bs [108, 105, 109, 105, 116])
 else
   bif !S.rin c.queue 0 200 then
   (bs [113, 117, 101, 117, 101])
 else
   bif !S.rin c.timeout 1 10000 then
   (bs [116, 105, 109, 101, 111, 117, 116])
 else
   bif !S.rin c.ready 0 100 then
   (bs [114, 101, 97, 100, 121])
 else
   bif !S.rin c.subset 0 100 then
   (bs [115, 117, 98, 115, 101, 116])
 else
   bif !S.rin c.sample 0 100 then
   (bs [115, 97, 109, 112, 108, 101])
 else
   (bs [])
noncomputable def S.rwrong_gk {R : Type} (c : Cf) (k : AVal → List Blk → Option R) : (ByteArray) → Option R := (fun v : ByteArray => k (.str v) [])
theorem S.rwrong_v {R : Type} (c : Cf) (k : AVal → List Blk → Option R) : fnEval tis F47 40 G65 Try.f47 [.agg (cfA c)] [] k = k (.str (S.rwrong c)) [] :=
  (S.rwrong_k c k).trans (bif_lift (f := (S.rwrong_gk c k)) (bif_lift (f := (S.rwrong_gk c k)) (bif_lift (f := (S.rwrong_gk c k)) (bif_lift (f := (S.rwrong_gk c k)) rfl (bif_lift (f := (S.rwrong_gk c k)) rfl (bif_lift (f := (S.rwrong_gk c k)) rfl (bif_lift (f := (S.rwrong_gk c k)) rfl (bif_lift (f := (S.rwrong_gk c k)) rfl (bif_lift (f := (S.rwrong_gk c k)) rfl (bif_lift (f := (S.rwrong_gk c k)) rfl (bif_lift (f := (S.rwrong_gk c k)) rfl (bif_lift (f := (S.rwrong_gk c k)) rfl (bif_lift (f := (S.rwrong_gk c k)) rfl (bif_lift (f := (S.rwrong_gk c k)) rfl (bif_lift (f := (S.rwrong_gk c k)) rfl (bif_lift (f := (S.rwrong_gk c k)) rfl (bif_lift (f := (S.rwrong_gk c k)) rfl (bif_lift (f := (S.rwrong_gk c k)) rfl (bif_lift (f := (S.rwrong_gk c k)) rfl (bif_lift (f := (S.rwrong_gk c k)) rfl (bif_lift (f := (S.rwrong_gk c k)) rfl rfl)))))))))))))))))) (bif_lift (f := (S.rwrong_gk c k)) rfl (bif_lift (f := (S.rwrong_gk c k)) rfl (bif_lift (f := (S.rwrong_gk c k)) rfl (bif_lift (f := (S.rwrong_gk c k)) rfl (bif_lift (f := (S.rwrong_gk c k)) rfl (bif_lift (f := (S.rwrong_gk c k)) rfl (bif_lift (f := (S.rwrong_gk c k)) rfl (bif_lift (f := (S.rwrong_gk c k)) rfl (bif_lift (f := (S.rwrong_gk c k)) rfl (bif_lift (f := (S.rwrong_gk c k)) rfl (bif_lift (f := (S.rwrong_gk c k)) rfl (bif_lift (f := (S.rwrong_gk c k)) rfl (bif_lift (f := (S.rwrong_gk c k)) rfl (bif_lift (f := (S.rwrong_gk c k)) rfl (bif_lift (f := (S.rwrong_gk c k)) rfl (bif_lift (f := (S.rwrong_gk c k)) rfl (bif_lift (f := (S.rwrong_gk c k)) rfl (bif_lift (f := (S.rwrong_gk c k)) rfl (bif_lift (f := (S.rwrong_gk c k)) rfl rfl)))))))))))))))))))) (bif_lift (f := (S.rwrong_gk c k)) (bif_lift (f := (S.rwrong_gk c k)) rfl (bif_lift (f := (S.rwrong_gk c k)) rfl (bif_lift (f := (S.rwrong_gk c k)) rfl (bif_lift (f := (S.rwrong_gk c k)) rfl (bif_lift (f := (S.rwrong_gk c k)) rfl (bif_lift (f := (S.rwrong_gk c k)) rfl (bif_lift (f := (S.rwrong_gk c k)) rfl (bif_lift (f := (S.rwrong_gk c k)) rfl (bif_lift (f := (S.rwrong_gk c k)) rfl (bif_lift (f := (S.rwrong_gk c k)) rfl (bif_lift (f := (S.rwrong_gk c k)) rfl (bif_lift (f := (S.rwrong_gk c k)) rfl (bif_lift (f := (S.rwrong_gk c k)) rfl (bif_lift (f := (S.rwrong_gk c k)) rfl (bif_lift (f := (S.rwrong_gk c k)) rfl (bif_lift (f := (S.rwrong_gk c k)) rfl (bif_lift (f := (S.rwrong_gk c k)) rfl (bif_lift (f := (S.rwrong_gk c k)) rfl (bif_lift (f := (S.rwrong_gk c k)) rfl rfl))))))))))))))))))) (bif_lift (f := (S.rwrong_gk c k)) rfl (bif_lift (f := (S.rwrong_gk c k)) rfl (bif_lift (f := (S.rwrong_gk c k)) rfl (bif_lift (f := (S.rwrong_gk c k)) rfl (bif_lift (f := (S.rwrong_gk c k)) rfl (bif_lift (f := (S.rwrong_gk c k)) rfl (bif_lift (f := (S.rwrong_gk c k)) rfl (bif_lift (f := (S.rwrong_gk c k)) rfl (bif_lift (f := (S.rwrong_gk c k)) rfl (bif_lift (f := (S.rwrong_gk c k)) rfl (bif_lift (f := (S.rwrong_gk c k)) rfl (bif_lift (f := (S.rwrong_gk c k)) rfl (bif_lift (f := (S.rwrong_gk c k)) rfl (bif_lift (f := (S.rwrong_gk c k)) rfl (bif_lift (f := (S.rwrong_gk c k)) rfl (bif_lift (f := (S.rwrong_gk c k)) rfl (bif_lift (f := (S.rwrong_gk c k)) rfl (bif_lift (f := (S.rwrong_gk c k)) rfl (bif_lift (f := (S.rwrong_gk c k)) rfl (bif_lift (f := (S.rwrong_gk c k)) rfl rfl)))))))))))))))))))))) (bif_lift (f := (S.rwrong_gk c k)) (bif_lift (f := (S.rwrong_gk c k)) (bif_lift (f := (S.rwrong_gk c k)) rfl (bif_lift (f := (S.rwrong_gk c k)) rfl (bif_lift (f := (S.rwrong_gk c k)) rfl (bif_lift (f := (S.rwrong_gk c k)) rfl (bif_lift (f := (S.rwrong_gk c k)) rfl (bif_lift (f := (S.rwrong_gk c k)) rfl (bif_lift (f := (S.rwrong_gk c k)) rfl (bif_lift (f := (S.rwrong_gk c k)) rfl (bif_lift (f := (S.rwrong_gk c k)) rfl (bif_lift (f := (S.rwrong_gk c k)) rfl (bif_lift (f := (S.rwrong_gk c k)) rfl (bif_lift (f := (S.rwrong_gk c k)) rfl (bif_lift (f := (S.rwrong_gk c k)) rfl (bif_lift (f := (S.rwrong_gk c k)) rfl (bif_lift (f := (S.rwrong_gk c k)) rfl (bif_lift (f := (S.rwrong_gk c k)) rfl (bif_lift (f := (S.rwrong_gk c k)) rfl (bif_lift (f := (S.rwrong_gk c k)) rfl rfl)))))))))))))))))) (bif_lift (f := (S.rwrong_gk c k)) rfl (bif_lift (f := (S.rwrong_gk c k)) rfl (bif_lift (f := (S.rwrong_gk c k)) rfl (bif_lift (f := (S.rwrong_gk c k)) rfl (bif_lift (f := (S.rwrong_gk c k)) rfl (bif_lift (f := (S.rwrong_gk c k)) rfl (bif_lift (f := (S.rwrong_gk c k)) rfl (bif_lift (f := (S.rwrong_gk c k)) rfl (bif_lift (f := (S.rwrong_gk c k)) rfl (bif_lift (f := (S.rwrong_gk c k)) rfl (bif_lift (f := (S.rwrong_gk c k)) rfl (bif_lift (f := (S.rwrong_gk c k)) rfl (bif_lift (f := (S.rwrong_gk c k)) rfl (bif_lift (f := (S.rwrong_gk c k)) rfl (bif_lift (f := (S.rwrong_gk c k)) rfl (bif_lift (f := (S.rwrong_gk c k)) rfl (bif_lift (f := (S.rwrong_gk c k)) rfl (bif_lift (f := (S.rwrong_gk c k)) rfl (bif_lift (f := (S.rwrong_gk c k)) rfl rfl)))))))))))))))))))) (bif_lift (f := (S.rwrong_gk c k)) (bif_lift (f := (S.rwrong_gk c k)) rfl (bif_lift (f := (S.rwrong_gk c k)) rfl (bif_lift (f := (S.rwrong_gk c k)) rfl (bif_lift (f := (S.rwrong_gk c k)) rfl (bif_lift (f := (S.rwrong_gk c k)) rfl (bif_lift (f := (S.rwrong_gk c k)) rfl (bif_lift (f := (S.rwrong_gk c k)) rfl (bif_lift (f := (S.rwrong_gk c k)) rfl (bif_lift (f := (S.rwrong_gk c k)) rfl (bif_lift (f := (S.rwrong_gk c k)) rfl (bif_lift (f := (S.rwrong_gk c k)) rfl (bif_lift (f := (S.rwrong_gk c k)) rfl (bif_lift (f := (S.rwrong_gk c k)) rfl (bif_lift (f := (S.rwrong_gk c k)) rfl (bif_lift (f := (S.rwrong_gk c k)) rfl (bif_lift (f := (S.rwrong_gk c k)) rfl (bif_lift (f := (S.rwrong_gk c k)) rfl (bif_lift (f := (S.rwrong_gk c k)) rfl (bif_lift (f := (S.rwrong_gk c k)) rfl rfl))))))))))))))))))) (bif_lift (f := (S.rwrong_gk c k)) rfl (bif_lift (f := (S.rwrong_gk c k)) rfl (bif_lift (f := (S.rwrong_gk c k)) rfl (bif_lift (f := (S.rwrong_gk c k)) rfl (bif_lift (f := (S.rwrong_gk c k)) rfl (bif_lift (f := (S.rwrong_gk c k)) rfl (bif_lift (f := (S.rwrong_gk c k)) rfl (bif_lift (f := (S.rwrong_gk c k)) rfl (bif_lift (f := (S.rwrong_gk c k)) rfl (bif_lift (f := (S.rwrong_gk c k)) rfl (bif_lift (f := (S.rwrong_gk c k)) rfl (bif_lift (f := (S.rwrong_gk c k)) rfl (bif_lift (f := (S.rwrong_gk c k)) rfl (bif_lift (f := (S.rwrong_gk c k)) rfl (bif_lift (f := (S.rwrong_gk c k)) rfl (bif_lift (f := (S.rwrong_gk c k)) rfl (bif_lift (f := (S.rwrong_gk c k)) rfl (bif_lift (f := (S.rwrong_gk c k)) rfl (bif_lift (f := (S.rwrong_gk c k)) rfl (bif_lift (f := (S.rwrong_gk c k)) rfl rfl)))))))))))))))))))))))
noncomputable def H47 : Hnd := fun R args σ k => match args, σ with
  | [.agg [.int .i64 target_, .int .i64 util_, .int .i64 stable_, .int .i64 panic_, .int .i64 grain_, .int .i64 threshold_, .int .i64 up_, .int .i64 down_, .int .i64 min_, .int .i64 max_, .int .i64 initial_, .int .i64 grace_, .int .i64 delay_, .int .i64 burst_, .int .i64 limit_, .int .i64 queue_, .int .i64 timeout_, .int .i64 ready_, .int .i64 subset_, .int .i64 sample_]], [] => k (.str (S.rwrong ⟨target_, util_, stable_, panic_, grain_, threshold_, up_, down_, min_, max_, initial_, grace_, delay_, burst_, limit_, queue_, timeout_, ready_, subset_, sample_⟩)) []
  | _, _ => none
theorem H47_ok : HndOk Try.prog 47 H47 := hnd_ok tis tisOk mixOk G65_ok F47 Try.func47 rfl (by
  intro R args σ k r h
  unfold H47 at h
  split at h
  · rename_i target_ util_ stable_ panic_ grain_ threshold_ up_ down_ min_ max_ initial_ grace_ delay_ burst_ limit_ queue_ timeout_ ready_ subset_ sample_; exact ⟨40, (S.rwrong_v ⟨target_, util_, stable_, panic_, grain_, threshold_, up_, down_, min_, max_, initial_, grace_, delay_, burst_, limit_, queue_, timeout_, ready_, subset_, sample_⟩ _).trans h⟩
  · cases h)
noncomputable def G47 : Env := Env.add 47 H47 G65
theorem G47_ok : EnvOk Try.prog G47 := envAdd_ok H47_ok G65_ok

/-! spinnakerref1.May -/
def F28 : FCfg := ⟨keepAt [(0, [1]), (1, [2])], loopAt [], []⟩
theorem S.rmay_k {R : Type} (c : Cf) (k : AVal → List Blk → Option R) : fnEval tis F28 0 G47 Try.f28 [.agg (cfA c)] [] k =
  (k (.bool (Array.toList (ByteArray.data (S.rwrong c)) == Array.toList (ByteArray.data (bs [])))) ([])) := by kernel_rfl
noncomputable def S.rmay (c : Cf) : Bool :=
  (Array.toList (ByteArray.data (S.rwrong c)) == Array.toList (ByteArray.data (bs [])))
theorem S.rmay_v {R : Type} (c : Cf) (k : AVal → List Blk → Option R) : fnEval tis F28 0 G47 Try.f28 [.agg (cfA c)] [] k = k (.bool (S.rmay c)) [] :=
  (S.rmay_k c k).trans rfl
noncomputable def H28 : Hnd := fun R args σ k => match args, σ with
  | [.agg [.int .i64 target_, .int .i64 util_, .int .i64 stable_, .int .i64 panic_, .int .i64 grain_, .int .i64 threshold_, .int .i64 up_, .int .i64 down_, .int .i64 min_, .int .i64 max_, .int .i64 initial_, .int .i64 grace_, .int .i64 delay_, .int .i64 burst_, .int .i64 limit_, .int .i64 queue_, .int .i64 timeout_, .int .i64 ready_, .int .i64 subset_, .int .i64 sample_]], [] => k (.bool (S.rmay ⟨target_, util_, stable_, panic_, grain_, threshold_, up_, down_, min_, max_, initial_, grace_, delay_, burst_, limit_, queue_, timeout_, ready_, subset_, sample_⟩)) []
  | _, _ => none
theorem H28_ok : HndOk Try.prog 28 H28 := hnd_ok tis tisOk mixOk G47_ok F28 Try.func28 rfl (by
  intro R args σ k r h
  unfold H28 at h
  split at h
  · rename_i target_ util_ stable_ panic_ grain_ threshold_ up_ down_ min_ max_ initial_ grace_ delay_ burst_ limit_ queue_ timeout_ ready_ subset_ sample_; exact ⟨0, (S.rmay_v ⟨target_, util_, stable_, panic_, grain_, threshold_, up_, down_, min_, max_, initial_, grace_, delay_, burst_, limit_, queue_, timeout_, ready_, subset_, sample_⟩ _).trans h⟩
  · cases h)
noncomputable def G28 : Env := Env.add 28 H28 G47
theorem G28_ok : EnvOk Try.prog G28 := envAdd_ok H28_ok G47_ok

/-! spinnakerref1.Default -/
def F22 : FCfg := ⟨keepAt [(0, [0]), (1, [0])], loopAt [], []⟩
theorem S.dflt_k {R : Type}  (k : AVal → List Blk → Option R) : fnEval tis F22 0 G28 Try.f22 [] [] k =
  (k (.agg [.int .i64 10000, .int .i64 700, .int .i64 60, .int .i64 6, .int .i64 1, .int .i64 2000, .int .i64 10000, .int .i64 2000, .int .i64 0, .int .i64 0, .int .i64 1, .int .i64 30, .int .i64 0, .int .i64 20000, .int .i64 10, .int .i64 100, .int .i64 60, .int .i64 3, .int .i64 0, .int .i64 0]) ([])) := by kernel_rfl
noncomputable def S.dflt  : Int × Int × Int × Int × Int × Int × Int × Int × Int × Int × Int × Int × Int × Int × Int × Int × Int × Int × Int × Int :=
  (10000, 700, 60, 6, 1, 2000, 10000, 2000, 0, 0, 1, 30, 0, 20000, 10, 100, 60, 3, 0, 0)
theorem S.dflt_v {R : Type}  (k : AVal → List Blk → Option R) : fnEval tis F22 0 G28 Try.f22 [] [] k = k (.agg [(.int .i64 (S.dflt).1), (.int .i64 (S.dflt).2.1), (.int .i64 (S.dflt).2.2.1), (.int .i64 (S.dflt).2.2.2.1), (.int .i64 (S.dflt).2.2.2.2.1), (.int .i64 (S.dflt).2.2.2.2.2.1), (.int .i64 (S.dflt).2.2.2.2.2.2.1), (.int .i64 (S.dflt).2.2.2.2.2.2.2.1), (.int .i64 (S.dflt).2.2.2.2.2.2.2.2.1), (.int .i64 (S.dflt).2.2.2.2.2.2.2.2.2.1), (.int .i64 (S.dflt).2.2.2.2.2.2.2.2.2.2.1), (.int .i64 (S.dflt).2.2.2.2.2.2.2.2.2.2.2.1), (.int .i64 (S.dflt).2.2.2.2.2.2.2.2.2.2.2.2.1), (.int .i64 (S.dflt).2.2.2.2.2.2.2.2.2.2.2.2.2.1), (.int .i64 (S.dflt).2.2.2.2.2.2.2.2.2.2.2.2.2.2.1), (.int .i64 (S.dflt).2.2.2.2.2.2.2.2.2.2.2.2.2.2.2.1), (.int .i64 (S.dflt).2.2.2.2.2.2.2.2.2.2.2.2.2.2.2.2.1), (.int .i64 (S.dflt).2.2.2.2.2.2.2.2.2.2.2.2.2.2.2.2.2.1), (.int .i64 (S.dflt).2.2.2.2.2.2.2.2.2.2.2.2.2.2.2.2.2.2.1), (.int .i64 (S.dflt).2.2.2.2.2.2.2.2.2.2.2.2.2.2.2.2.2.2.2)]) [] :=
  (S.dflt_k k).trans rfl
noncomputable def H22 : Hnd := fun R args σ k => match args, σ with
  | [], [] => k (.agg [(.int .i64 (S.dflt).1), (.int .i64 (S.dflt).2.1), (.int .i64 (S.dflt).2.2.1), (.int .i64 (S.dflt).2.2.2.1), (.int .i64 (S.dflt).2.2.2.2.1), (.int .i64 (S.dflt).2.2.2.2.2.1), (.int .i64 (S.dflt).2.2.2.2.2.2.1), (.int .i64 (S.dflt).2.2.2.2.2.2.2.1), (.int .i64 (S.dflt).2.2.2.2.2.2.2.2.1), (.int .i64 (S.dflt).2.2.2.2.2.2.2.2.2.1), (.int .i64 (S.dflt).2.2.2.2.2.2.2.2.2.2.1), (.int .i64 (S.dflt).2.2.2.2.2.2.2.2.2.2.2.1), (.int .i64 (S.dflt).2.2.2.2.2.2.2.2.2.2.2.2.1), (.int .i64 (S.dflt).2.2.2.2.2.2.2.2.2.2.2.2.2.1), (.int .i64 (S.dflt).2.2.2.2.2.2.2.2.2.2.2.2.2.2.1), (.int .i64 (S.dflt).2.2.2.2.2.2.2.2.2.2.2.2.2.2.2.1), (.int .i64 (S.dflt).2.2.2.2.2.2.2.2.2.2.2.2.2.2.2.2.1), (.int .i64 (S.dflt).2.2.2.2.2.2.2.2.2.2.2.2.2.2.2.2.2.1), (.int .i64 (S.dflt).2.2.2.2.2.2.2.2.2.2.2.2.2.2.2.2.2.2.1), (.int .i64 (S.dflt).2.2.2.2.2.2.2.2.2.2.2.2.2.2.2.2.2.2.2)]) []
  | _, _ => none
theorem H22_ok : HndOk Try.prog 22 H22 := hnd_ok tis tisOk mixOk G28_ok F22 Try.func22 rfl (by
  intro R args σ k r h
  unfold H22 at h
  split at h
  · exact ⟨0, (S.dflt_v _).trans h⟩
  · cases h)
noncomputable def G22 : Env := Env.add 22 H22 G28
theorem G22_ok : EnvOk Try.prog G22 := envAdd_ok H22_ok G28_ok

/-! spinnakerref1.Per -/
def F29 : FCfg := ⟨keepAt [(0, [1]), (1, [3]), (2, [2])], loopAt [], []⟩
theorem S.rper_k {R : Type} (c : Cf) (k : AVal → List Blk → Option R) : fnEval tis F29 0 G22 Try.f29 [.agg (cfA c)] [] k =
  (k (.int .i64 (if 1 > Prod.fst (S.rmul c.target c.util) then 1 else Prod.fst (S.rmul c.target c.util))) ([])) := by kernel_rfl
noncomputable def S.rper (c : Cf) : Int :=
  (if 1 > Prod.fst (S.rmul c.target c.util) then 1 else Prod.fst (S.rmul c.target c.util))
theorem S.rper_v {R : Type} (c : Cf) (k : AVal → List Blk → Option R) : fnEval tis F29 0 G22 Try.f29 [.agg (cfA c)] [] k = k (.int .i64 (S.rper c)) [] :=
  (S.rper_k c k).trans rfl
noncomputable def H29 : Hnd := fun R args σ k => match args, σ with
  | [.agg [.int .i64 target_, .int .i64 util_, .int .i64 stable_, .int .i64 panic_, .int .i64 grain_, .int .i64 threshold_, .int .i64 up_, .int .i64 down_, .int .i64 min_, .int .i64 max_, .int .i64 initial_, .int .i64 grace_, .int .i64 delay_, .int .i64 burst_, .int .i64 limit_, .int .i64 queue_, .int .i64 timeout_, .int .i64 ready_, .int .i64 subset_, .int .i64 sample_]], [] => k (.int .i64 (S.rper ⟨target_, util_, stable_, panic_, grain_, threshold_, up_, down_, min_, max_, initial_, grace_, delay_, burst_, limit_, queue_, timeout_, ready_, subset_, sample_⟩)) []
  | _, _ => none
theorem H29_ok : HndOk Try.prog 29 H29 := hnd_ok tis tisOk mixOk G22_ok F29 Try.func29 rfl (by
  intro R args σ k r h
  unfold H29 at h
  split at h
  · rename_i target_ util_ stable_ panic_ grain_ threshold_ up_ down_ min_ max_ initial_ grace_ delay_ burst_ limit_ queue_ timeout_ ready_ subset_ sample_; exact ⟨0, (S.rper_v ⟨target_, util_, stable_, panic_, grain_, threshold_, up_, down_, min_, max_, initial_, grace_, delay_, burst_, limit_, queue_, timeout_, ready_, subset_, sample_⟩ _).trans h⟩
  · cases h)
noncomputable def G29 : Env := Env.add 29 H29 G22
theorem G29_ok : EnvOk Try.prog G29 := envAdd_ok H29_ok G22_ok

/-! conf.Per -/
def F42 : FCfg := ⟨keepAt [(0, [1]), (1, [3]), (2, [2])], loopAt [], []⟩
theorem S.per_k {R : Type} (c : Cf) (k : AVal → List Blk → Option R) : fnEval tis F42 0 G29 Try.f42 [.agg (cfA c)] [] k =
  ((optK (S.mmul c.target c.util) fun o2 =>
   k (.int .i64 (if 1 > o2.1 then 1 else o2.1)) ([]))) := by kernel_rfl
noncomputable def S.per (c : Cf) : Option (Int) :=
  (optK (S.mmul c.target c.util) fun o2 =>
   some (if 1 > o2.1 then 1 else o2.1))
noncomputable def S.per_gk {R : Type} (c : Cf) (k : AVal → List Blk → Option R) : (Int) → Option R := (fun v : Int => k (.int .i64 v) [])
theorem S.per_v {R : Type} (c : Cf) (k : AVal → List Blk → Option R) : fnEval tis F42 0 G29 Try.f42 [.agg (cfA c)] [] k = oK (fun v : Int => k (.int .i64 v) []) (S.per c) :=
  (S.per_k c k).trans (opt_lift fun o2 => rfl)
noncomputable def H42 : Hnd := fun R args σ k => match args, σ with
  | [.agg [.int .i64 target_, .int .i64 util_, .int .i64 stable_, .int .i64 panic_, .int .i64 grain_, .int .i64 threshold_, .int .i64 up_, .int .i64 down_, .int .i64 min_, .int .i64 max_, .int .i64 initial_, .int .i64 grace_, .int .i64 delay_, .int .i64 burst_, .int .i64 limit_, .int .i64 queue_, .int .i64 timeout_, .int .i64 ready_, .int .i64 subset_, .int .i64 sample_]], [] => oK (fun v : Int => k (.int .i64 v) []) (S.per ⟨target_, util_, stable_, panic_, grain_, threshold_, up_, down_, min_, max_, initial_, grace_, delay_, burst_, limit_, queue_, timeout_, ready_, subset_, sample_⟩)
  | _, _ => none
theorem H42_ok : HndOk Try.prog 42 H42 := hnd_ok tis tisOk mixOk G29_ok F42 Try.func42 rfl (by
  intro R args σ k r h
  unfold H42 at h
  split at h
  · rename_i target_ util_ stable_ panic_ grain_ threshold_ up_ down_ min_ max_ initial_ grace_ delay_ burst_ limit_ queue_ timeout_ ready_ subset_ sample_; exact ⟨0, (S.per_v ⟨target_, util_, stable_, panic_, grain_, threshold_, up_, down_, min_, max_, initial_, grace_, delay_, burst_, limit_, queue_, timeout_, ready_, subset_, sample_⟩ _).trans h⟩
  · cases h)
noncomputable def G42 : Env := Env.add 42 H42 G29
theorem G42_ok : EnvOk Try.prog G42 := envAdd_ok H42_ok G29_ok
end Go.Proofs.Ytdflpflffccmgaa.AB
