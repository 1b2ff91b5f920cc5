/- The document's functions of the settings, as plain functions. -/
import Derived.Test.YtdcfjndlmmldpaaSconf
namespace Go.Proofs.Ytdcfjndlmmldpaa.AB
set_option linter.unusedVariables false

/-! spinnakerref1.in -/
def F49 : FCfg := ⟨keepAt [(0, [0, 1, 2, 7, 8, 9, 10, 11, 12, 13, 14]), (1, [6])], loopAt [], []⟩
theorem S.rin_k {R : Type} (n lo hi : Int) (k : AVal → List Blk → Option R) : fnEval tis F49 0 G37 Try.f49 [.int .i64 n, .int .i64 lo, .int .i64 hi] [] k =
  (bif decide (lo ≤ n) then
    k (.bool (decide (n ≤ hi))) ([])
  else
    k (.bool false) ([])) := by kernel_rfl
def S.rin (n lo hi : Int) : Bool :=
  bif decide (lo ≤ n) then
    (decide (n ≤ hi))
  else
    (false)
theorem S.rin_v {R : Type} (n lo hi : Int) (k : AVal → List Blk → Option R) : fnEval tis F49 0 G37 Try.f49 [.int .i64 n, .int .i64 lo, .int .i64 hi] [] k = k (.bool (S.rin n lo hi)) [] :=
  (S.rin_k n lo hi k).trans (bif_lift (f := (fun v : Bool => k (.bool v) [])) rfl rfl)
def H49 : Hnd := fun R args σ k => match args, σ with
  | [.int .i64 n, .int .i64 lo, .int .i64 hi], [] => k (.bool (S.rin n lo hi)) []
  | _, _ => none
theorem H49_ok : HndOk Try.prog 49 H49 := hnd_ok tis tisOk mixOk G37_ok F49 Try.func49 rfl (by
  intro R args σ k r h
  unfold H49 at h
  split at h
  · rename_i n lo hi; exact ⟨0, (S.rin_v n lo hi _).trans h⟩
  · cases h)
def G49 : Env := Env.add 49 H49 G37
theorem G49_ok : EnvOk Try.prog G49 := envAdd_ok H49_ok G37_ok

/-! spinnakerref1.Values -/
def F48 : FCfg := ⟨keepAt [(0, [1, 3, 4, 5, 6, 7, 8, 9, 10, 11, 12, 13, 14, 15, 16, 17, 18, 19, 20, 21, 22, 23, 24, 25, 26, 27, 28, 29, 30, 31, 32, 33, 34, 35, 36, 37, 38, 39, 40, 41, 42, 43]), (1, [2])], loopAt [], []⟩
theorem S.rvalues_k {R : Type} (c : Cf) (k : AVal → List Blk → Option R) : fnEval tis F48 0 G49 Try.f48 [.agg (cfA c)] [] k =
  (k (.slice 1 0 0 20 Option.none) ([.rows (Cd.int .i64) [Cf.target c, Cf.util c, Cf.stable c, Cf.panic c, Cf.grain c, Cf.threshold c, Cf.up c, Cf.down c, Cf.min c, Cf.max c, Cf.initial c, Cf.grace c, Cf.delay c, Cf.burst c, Cf.limit c, Cf.queue c, Cf.timeout c, Cf.ready c, Cf.subset c, Cf.sample c] false])) := by kernel_rfl
def S.rvalues (c : Cf) : List Int :=
  ([Cf.target c, Cf.util c, Cf.stable c, Cf.panic c, Cf.grain c, Cf.threshold c, Cf.up c, Cf.down c, Cf.min c, Cf.max c, Cf.initial c, Cf.grace c, Cf.delay c, Cf.burst c, Cf.limit c, Cf.queue c, Cf.timeout c, Cf.ready c, Cf.subset c, Cf.sample c])
theorem S.rvalues_v {R : Type} (c : Cf) (k : AVal → List Blk → Option R) : fnEval tis F48 0 G49 Try.f48 [.agg (cfA c)] [] k = k (.slice 1 0 0 20 Option.none) [(.rows (Cd.int .i64) (S.rvalues c) false)] :=
  (S.rvalues_k c k).trans rfl
def H48 : Hnd := fun R args σ k => match args, σ with
  | [.agg [.int .i64 target_, .int .i64 util_, .int .i64 stable_, .int .i64 panic_, .int .i64 grain_, .int .i64 threshold_, .int .i64 up_, .int .i64 down_, .int .i64 min_, .int .i64 max_, .int .i64 initial_, .int .i64 grace_, .int .i64 delay_, .int .i64 burst_, .int .i64 limit_, .int .i64 queue_, .int .i64 timeout_, .int .i64 ready_, .int .i64 subset_, .int .i64 sample_]], [] => k (.slice 1 0 0 20 Option.none) [(.rows (Cd.int .i64) (S.rvalues ⟨target_, util_, stable_, panic_, grain_, threshold_, up_, down_, min_, max_, initial_, grace_, delay_, burst_, limit_, queue_, timeout_, ready_, subset_, sample_⟩) false)]
  | _, _ => none
theorem H48_ok : HndOk Try.prog 48 H48 := hnd_ok tis tisOk mixOk G49_ok F48 Try.func48 rfl (by
  intro R args σ k r h
  unfold H48 at h
  split at h
  · rename_i target_ util_ stable_ panic_ grain_ threshold_ up_ down_ min_ max_ initial_ grace_ delay_ burst_ limit_ queue_ timeout_ ready_ subset_ sample_; exact ⟨0, (S.rvalues_v ⟨target_, util_, stable_, panic_, grain_, threshold_, up_, down_, min_, max_, initial_, grace_, delay_, burst_, limit_, queue_, timeout_, ready_, subset_, sample_⟩ _).trans h⟩
  · cases h)
def G48 : Env := Env.add 48 H48 G49
theorem G48_ok : EnvOk Try.prog G48 := envAdd_ok H48_ok G49_ok

/-! spinnakerref1.Names -/
def F50 : FCfg := ⟨keepAt [(0, [1]), (1, [0])], loopAt [], []⟩
theorem S.rnames_k {R : Type}  (k : AVal → List Blk → Option R) : fnEval tis F50 0 G48 Try.f50 [] [] k =
  (k (.slice 1 0 0 20 Option.none) ([.rows Cd.str [bs [116, 97, 114, 103, 101, 116], bs [117, 116, 105, 108], bs [115, 116, 97, 98, 108, 101], bs [112, 97, 110, 105, 99], bs [103, 114, 97, 105, 110], bs [116, 104, 114, 101, 115, 104, 111, 108, 100], bs [117, 112], bs [100, 111, 119, 110], bs [109, 105, 110], bs [109, 97, 120], bs [105, 110, 105, 116, 105, 97, 108], bs [103, 114, 97, 99, 101], bs [100, 101, 108, 97, 121], bs [98, 117, 114, 115, 116], bs [108, 105, 109, 105, 116], bs [113, 117, 101, 117, 101], bs [116, 105, 109, 101, 111, 117, 116], bs [114, 101, 97, 100, 121], bs [115, 117, 98, 115, 101, 116], bs [115, 97, 109, 112, 108, 101]] false])) := by kernel_rfl
def S.rnames  : List ByteArray :=
  ([bs [116, 97, 114, 103, 101, 116], bs [117, 116, 105, 108], bs [115, 116, 97, 98, 108, 101], bs [112, 97, 110, 105, 99], bs [103, 114, 97, 105, 110], bs [116, 104, 114, 101, 115, 104, 111, 108, 100], bs [117, 112], bs [100, 111, 119, 110], bs [109, 105, 110], bs [109, 97, 120], bs [105, 110, 105, 116, 105, 97, 108], bs [103, 114, 97, 99, 101], bs [100, 101, 108, 97, 121], bs [98, 117, 114, 115, 116], bs [108, 105, 109, 105, 116], bs [113, 117, 101, 117, 101], bs [116, 105, 109, 101, 111, 117, 116], bs [114, 101, 97, 100, 121], bs [115, 117, 98, 115, 101, 116], bs [115, 97, 109, 112, 108, 101]])
theorem S.rnames_v {R : Type}  (k : AVal → List Blk → Option R) : fnEval tis F50 0 G48 Try.f50 [] [] k = k (.slice 1 0 0 20 Option.none) [(.rows (Cd.str) (S.rnames) false)] :=
  (S.rnames_k k).trans rfl
def H50 : Hnd := fun R args σ k => match args, σ with
  | [], [] => k (.slice 1 0 0 20 Option.none) [(.rows (Cd.str) (S.rnames) false)]
  | _, _ => none
theorem H50_ok : HndOk Try.prog 50 H50 := hnd_ok tis tisOk mixOk G48_ok F50 Try.func50 rfl (by
  intro R args σ k r h
  unfold H50 at h
  split at h
  · exact ⟨0, (S.rnames_v _).trans h⟩
  · cases h)
def G50 : Env := Env.add 50 H50 G48
theorem G50_ok : EnvOk Try.prog G50 := envAdd_ok H50_ok G48_ok
end Go.Proofs.Ytdcfjndlmmldpaa.AB
