/- The document's functions of the settings, as plain functions. -/
import Derived.Test.YtdcfjndlmmldpaaSconf
namespace Go.Proofs.Ytdcfjndlmmldpaa.AB
set_option linter.unusedVariables false

/-! spinnakerref1.in -/
def F49 : FCfg := ⟨keepAt [(0, [0, 1, 2, 7, 8, 9, 10, 11, 12, 13, 14]), (1, [6])], loopAt [], []⟩
theorem S.rin_k {R : Type} (n lo hi : Int) (k : AVal → List Blk → Option R) : fnEval tis F49 0 G37 Try.f49 [.int .i64 n, .int .i64 lo, .int .i64 hi] [] k =
  (bif decide (lo ≤ n) then
    k (.bool (decide (n ≤ hi))) ([])
  else
    k (.bool false) ([])) := by kernel_rfl
def S.rin (n lo hi : Int) : Bool :=
  bif decide (lo ≤ n) then
    (decide (n ≤ hi))
  else
    (false)
theorem S.rin_v {R : Type} (n lo hi : Int) (k : AVal → List Blk → Option R) : fnEval tis F49 0 G37 Try.f49 [.int .i64 n, .int .i64 lo, .int .i64 hi] [] k = k (.bool (S.rin n lo hi)) [] :=
  (S.rin_k n lo hi k).trans (bif_lift (f := (fun v : Bool => k (.bool v) [])) rfl rfl)
def H49 : Hnd := fun R args σ k => match args, σ with
  | [.int .i64 n, .int .i64 lo, .int .i64 hi], [] => k (.bool (S.rin n lo hi)) []
  | _, _ => none
theorem H49_ok : HndOk Try.prog 49 H49 := hnd_ok tis tisOk mixOk G37_ok F49 Try.func49 rfl (by
  intro R args σ k r h
  unfold H49 at h
  split at h
  · rename_i n lo hi; exact ⟨0, (S.rin_v n lo hi _).trans h⟩
  · cases h)
def G49 : Env := Env.add 49 H49 G37
theorem G49_ok : EnvOk Try.prog G49 := envAdd_ok H49_ok G37_ok

/-! spinnakerref1.Values -/
def F48 : FCfg := ⟨keepAt [(0, [1, 3, 4, 5, 6, 7, 8, 9, 10, 11, 12, 13, 14, 15, 16, 17, 18, 19, 20, 21, 22, 23, 24, 25, 26, 27, 28, 29, 30, 31, 32, 33, 34, 35, 36, 37, 38, 39, 40, 41, 42, 43]), (1, [2])], loopAt [], []⟩
theorem S.rvalues_k {R : Type} (c : Cf) (k : AVal → List Blk → Option R) : fnEval tis F48 0 G49 Try.f48 [.agg (cfA c)] [] k =
  (k (.slice 1 0 0 20 Option.none) ([.rows (Cd.int .i64) [Cf.target c, Cf.util c, Cf.stable c, Cf.panic c, Cf.grain c, Cf.threshold c, Cf.up c, Cf.down c, Cf.min c, Cf.max c, Cf.initial c, Cf.grace c, Cf.delay c, Cf.burst c, Cf.limit c, Cf.queue c, Cf.timeout c, Cf.ready c, Cf.subset c, Cf.sample c] false])) := by kernel_rfl
def S.rvalues (c : Cf) : List Int :=
  ([Cf.target c, Cf.util c, Cf.stable c, Cf.panic c, Cf.grain c, Cf.threshold c, Cf.up c, Cf.down c, Cf.min c, Cf.max c, Cf.initial c, Cf.grace c, Cf.delay c, Cf.burst c, Cf.limit c, Cf.queue c, Cf.timeout c, Cf.ready c, Cf.subset c, Cf.sample c])
theorem S.rvalues_v {R : Type} (c : Cf) (k : AVal → List Blk → Option R) : fnEval tis F48 0 G49 Try.f48 [.agg (cfA c)] [] k = k (.slice 1 0 0 20 Option.none) [(.rows (Cd.int .i64) (S.rvalues c) false)] :=
  (S.rvalues_k c k).trans rfl
def H48 : Hnd := fun R args σ k => match args, σ with
  | [.agg [.int .i64 target_, .int .i64 util_, .int .i64 stable_, .int .i64 panic_, .int .i64 grain_, .int .i64 threshold_, .int .i64 up_, .int .i64 down_, .int .i64 min_, .int .i64 max_, .int .i64 initial_, .int .i64 grace_, .int .i64 delay_, .int .i64 burst_, .int .i64 limit_, .int .i64 queue_, .int .i64 timeout_, .int .i64 ready_, .int .i64 subset_, .int .i64 sample_]], [] => k (.slice 1 0 0 20 Option.none) [(.rows (Cd.int .i64) (S.rvalues ⟨target_, util_, stable_, panic_, grain_, threshold_, up_, down_, min_, max_, initial_, grace_, delay_, burst_, limit_, queue_, timeout_, ready_, subset_, sample_⟩) false)]
  | _, _ => none
theorem H48_ok : HndOk Try.prog 48 H48 := hnd_ok tis tisOk mixOk G49_ok F48 Try.func48 rfl (by
  intro R args σ k r h
  unfold H48 at h
  split at h
  · rename_i target_ util_ stable_ panic_ grain_ threshold_ up_ down_ min_ max_ initial_ grace_ delay_ burst_ limit_ queue_ timeout_ ready_ subset_ sample_; exact ⟨0, (S.rvalues_v ⟨target_, util_, stable_, panic_, grain_, threshold_, up_, down_, min_, max_, initial_, grace_, delay_, burst_, limit_, queue_, timeout_, ready_, subset_, sample_⟩ _).trans h⟩
  · cases h)
def G48 : Env := Env.add 48 H48 G49
theorem G48_ok : EnvOk Try.prog G48 := envAdd_ok H48_ok G49_ok

/-! spinnakerref1.Names -/
def F50 : FCfg := ⟨keepAt [(0, [1]), (1, [0])], loopAt [], []⟩
theorem S.rnames_k {R : Type}  (k : AVal → List Blk → Option R) : fnEval tis F50 0 G48 Try.f50 [] [] k =
  (k (.slice 1 0 0 20 Option.none) ([.rows Cd.str [bs [116, 97, 114, 103, 101, 116], bs [117, 116, 105, 108], bs [115, 116, 97, 98, 108, 101], bs [112, 97, 110, 105, 99], bs [103, 114, 97, 105, 110], bs [116, 104, 114, 101, 115, 104, 111, 108, 100], bs [117, 112], bs [100, 111, 119, 110], bs [109, 105, 110], bs [109, 97, 120], bs [105, 110, 105, 116, 105, 97, 108], bs [103, 114, 97, 99, 101], bs [100, 101, 108, 97, 121], bs [98, 117, 114, 115, 116], bs [108, 105, 109, 105, 116], bs [113, 117, 101, 117, 101], bs [116, 105, 109, 101, 111, 117, 116], bs [114, 101, 97, 100, 121], bs [115, 117, 98, 115, 101, 116], bs [115, 97, 109, 112, 108, 101]] false])) := by kernel_rfl
def S.rnames  : List ByteArray :=
  ([bs [116, 97, 114, 103, 101, 116], bs [117, 116, 105, 108], bs [115, 116, 97, 98, 108, 101], bs [112, 97, 110, 105, 99], bs [103, 114, 97, 105, 110], bs [116, 104, 114, 101, 115, 104, 111, 108, 100], bs [117, 112], bs [100, 111, 119, 110], bs [109, 105, 110], bs [109, 97, 120], bs [105, 110, 105, 116, 105, 97, 108], bs [103, 114, 97, 99, 101], bs [100, 101, 108, 97, 121], bs [98, 117, 114, 115, 116], bs [108, 105, 109, 105, 116], bs [113, 117, 101, 117, 101], bs [116, 105, 109, 101, 111, 117, 116], bs [114, 101, 97, 100, 121], bs [115, 117, 98, 115, 101, 116], bs [115, 97, 109, 112, 108, 101]])
theorem S.rnames_v {R : Type}  (k : AVal → List Blk → Option R) : fnEval tis F50 0 G48 Try.f50 [] [] k = k (.slice 1 0 0 20 Option.none) [(.rows (Cd.str) (S.rnames) false)] :=
  (S.rnames_k k).trans rfl
def H50 : Hnd := fun R args σ k => match args, σ with
  | [], [] => k (.slice 1 0 0 20 Option.none) [(.rows (Cd.str) (S.rnames) false)]
  | _, _ => none
theorem H50_ok : HndOk Try.prog 50 H50 := hnd_ok tis tisOk mixOk G48_ok F50 Try.func50 rfl (by
  intro R args σ k r h
  unfold H50 at h
  split at h
  · exact ⟨0, (S.rnames_v _).trans h⟩
  · cases h)
def G50 : Env := Env.add 50 H50 G48
theorem G50_ok : EnvOk Try.prog G50 := envAdd_ok H50_ok G48_ok

/-! spinnakerref1.Wrong -/
def F38 : FCfg := ⟨keepAt [(0, [1, 7, 8, 9, 10, 12, 13, 14, 15, 16, 17, 18, 19, 20, 21, 22, 23, 24, 25, 26, 27, 28, 29, 30, 31, 32, 33, 34, 35, 36, 37, 38, 39, 40, 41, 42, 43, 44, 45, 46, 47, 48, 49, 50, 51, 52, 53, 54, 55, 56, 57, 58, 59, 60, 61, 62, 63, 64, 65, 66, 67, 68, 69, 70, 71, 72, 73, 74, 75, 76, 77, 78, 79, 80, 81, 82, 83, 84, 85, 86, 87, 88, 89, 90, 91, 92, 93, 94, 95, 96, 97, 98, 99, 100, 101, 102, 103, 104, 105, 106, 107, 108, 109, 110, 111, 112, 113, 114, 115, 116, 117, 118, 119, 120, 122, 123, 124, 125, 126, 127, 129, 130, 131, 132]), (1, [1, 3, 9, 10, 12, 13, 14, 15, 16, 17, 18, 19, 20, 21, 22, 23, 24, 25, 26, 27, 28, 29, 30, 31, 32, 33, 34, 35, 36, 37, 38, 39, 40, 41, 42, 43, 44, 45, 46, 47, 48, 49, 50, 51, 52, 53, 54, 55, 56, 57, 58, 59, 60, 61, 62, 63, 64, 65, 66, 67, 68, 69, 70, 71, 72, 73, 74, 75, 76, 77, 78, 79, 80, 81, 82, 83, 84, 85, 86, 87, 88, 89, 90, 91, 92, 93, 94, 95, 96, 97, 98, 99, 100, 101, 102, 103, 104, 105, 106, 107, 108, 109, 110, 111, 112, 113, 114, 115, 116, 117, 118, 119, 120, 122, 123, 124, 125, 126, 127, 129, 130, 131, 132]), (2, [1, 3, 4, 9, 10, 12, 13, 14, 15, 16, 17, 18, 19, 20, 21, 22, 23, 24, 25, 26, 27, 28, 29, 30, 31, 32, 33, 34, 35, 36, 37, 38, 39, 40, 41, 42, 43, 44, 45, 46, 47, 48, 49, 50, 51, 52, 53, 54, 55, 56, 57, 58, 59, 60, 61, 62, 63, 64, 65, 66, 67, 68, 69, 70, 71, 72, 73, 74, 75, 76, 77, 78, 79, 80, 81, 82, 83, 84, 85, 86, 87, 88, 89, 90, 91, 92, 93, 94, 95, 96, 97, 98, 99, 100, 101, 102, 103, 104, 105, 106, 107, 108, 109, 110, 111, 112, 113, 114, 115, 116, 117, 118, 119, 120, 122, 123, 124, 125, 126, 127, 129, 130, 131, 132]), (3, [1, 3, 4, 11, 12, 13, 14, 15, 16, 17, 18, 19, 20, 21, 22, 23, 24, 25, 26, 27, 28, 29, 30, 31, 32, 33, 34, 35, 36, 37, 38, 39, 40, 41, 42, 43, 44, 45, 46, 47, 48, 49, 50, 51, 52, 53, 54, 55, 56, 57, 58, 59, 60, 61, 62, 63, 64, 65, 66, 67, 68, 69, 70, 71, 72, 73, 74, 75, 76, 77, 78, 79, 80, 81, 82, 83, 84, 85, 86, 87, 88, 89, 90, 91, 92, 93, 94, 95, 96, 97, 98, 99, 100, 101, 102, 103, 104, 105, 106, 107, 108, 109, 110, 111, 112, 113, 114, 115, 116, 117, 118, 119, 120, 122, 123, 124, 125, 126, 127, 129, 130, 131, 132]), (4, [3, 4, 14, 15, 16, 17, 18, 19, 20, 21, 22, 23, 24, 25, 26, 27, 28, 29, 30, 31, 32, 33, 34, 35, 36, 37, 38, 39, 40, 41, 42, 43, 44, 45, 46, 47, 48, 49, 50, 51, 52, 53, 54, 55, 56, 57, 58, 59, 60, 61, 62, 63, 64, 65, 66, 67, 68, 69, 70, 71, 72, 73, 74, 75, 76, 77, 78, 79, 80, 81, 82, 83, 84, 85, 86, 87, 88, 89, 90, 91, 92, 93, 94, 95, 96, 97, 98, 99, 100, 101, 102, 103, 104, 105, 106, 107, 108, 109, 110, 111, 112, 113, 114, 115, 116, 117, 118, 119, 120, 122, 123, 124, 125, 126, 127, 129, 130, 131, 132]), (5, [5, 118, 119, 120, 122, 123, 124, 125, 126, 127, 129, 130, 131, 132]), (6, [5, 6, 118, 119, 120, 122, 123, 124, 125, 126, 127, 129, 130, 131, 132]), (7, [5, 6, 118, 119, 120, 121, 122, 123, 124, 125, 126, 127, 129, 130, 131, 132]), (8, [5, 6, 118, 119, 120, 122, 123, 124, 125, 126, 127, 129, 130, 131, 132]), (9, [5, 6, 118, 119, 120, 122, 123, 124, 125, 126, 127, 128, 129, 130, 131, 132]), (10, [2]), (11, [2])], loopAt [(7, [5, 6, 118, 119, 120, 122, 123, 124, 125, 126, 127, 129, 130, 131, 132], [])], []⟩
theorem S.rwrong_k {R : Type} (c : Cf) (k : AVal → List Blk → Option R) : fnEval tis F38 40 G50 Try.f38 [.agg (cfA c)] [] k =
  (bif decide (0 < Cf.max c) then
    bif decide (Cf.max c = 0) then
      bif decide (Cf.burst c = -1000) then
        bif !S.rin (Cf.target c) 10 1000000 then
          k (.str (bs [116, 97, 114, 103, 101, 116])) ([])
        else
          bif !S.rin (Cf.util c) 100 1000 then
            k (.str (bs [117, 116, 105, 108])) ([])
          else
            bif !S.rin (Cf.stable c) 6 600 then
              k (.str (bs [115, 116, 97, 98, 108, 101])) ([])
            else
              bif !S.rin (Cf.panic c) 1 (Cf.stable c) then
                k (.str (bs [112, 97, 110, 105, 99])) ([])
              else
                bif !S.rin (Cf.grain c) 1 (Cf.panic c) then
                  k (.str (bs [103, 114, 97, 105, 110])) ([])
                else
                  bif !S.rin (Cf.threshold c) 1100 10000 then
                    k (.str (bs [116, 104, 114, 101, 115, 104, 111, 108, 100])) ([])
                  else
                    bif !S.rin (Cf.up c) 1001 1000000 then
                      k (.str (bs [117, 112])) ([])
                    else
                      bif !S.rin (Cf.down c) 1001 1000000 then
                        k (.str (bs [100, 111, 119, 110])) ([])
                      else
                        bif !S.rin (Cf.min c) 0 100 then
                          k (.str (bs [109, 105, 110])) ([])
                        else
                          bif !S.rin (Cf.initial c) 0 (Cf.max c) then
                            k (.str (bs [105, 110, 105, 116, 105, 97, 108])) ([])
                          else
                            bif !S.rin (Cf.grace c) 0 600 then
                              k (.str (bs [103, 114, 97, 99, 101])) ([])
                            else
                              bif !S.rin (Cf.delay c) 0 600 then
                                k (.str (bs [100, 101, 108, 97, 121])) ([])
                              else
                                bif !S.rin (Cf.limit c) 1 1000 then
                                  k (.str (bs [108, 105, 109, 105, 116])) ([])
                                else
                                  bif !S.rin (Cf.queue c) 0 200 then
                                    k (.str (bs [113, 117, 101, 117, 101])) ([])
                                  else
                                    bif !S.rin (Cf.timeout c) 1 10000 then
                                      k (.str (bs [116, 105, 109, 101, 111, 117, 116])) ([])
                                    else
                                      bif !S.rin (Cf.ready c) 0 100 then
                                        k (.str (bs [114, 101, 97, 100, 121])) ([])
                                      else
                                        bif !S.rin (Cf.subset c) 0 100 then
                                          k (.str (bs [115, 117, 98, 115, 101, 116])) ([])
                                        else
                                          bif !S.rin (Cf.sample c) 0 100 then
                                            k (.str (bs [115, 97, 109, 112, 108, 101])) ([])
                                          else
                                            k (.str (bs [])) ([])
      else
        bif !S.rin (Cf.target c) 10 1000000 then
          k (.str (bs [116, 97, 114, 103, 101, 116])) ([])
        else
          bif !S.rin (Cf.util c) 100 1000 then
            k (.str (bs [117, 116, 105, 108])) ([])
          else
            bif !S.rin (Cf.stable c) 6 600 then
              k (.str (bs [115, 116, 97, 98, 108, 101])) ([])
            else
              bif !S.rin (Cf.panic c) 1 (Cf.stable c) then
                k (.str (bs [112, 97, 110, 105, 99])) ([])
              else
                bif !S.rin (Cf.grain c) 1 (Cf.panic c) then
                  k (.str (bs [103, 114, 97, 105, 110])) ([])
                else
                  bif !S.rin (Cf.threshold c) 1100 10000 then
                    k (.str (bs [116, 104, 114, 101, 115, 104, 111, 108, 100])) ([])
                  else
                    bif !S.rin (Cf.up c) 1001 1000000 then
                      k (.str (bs [117, 112])) ([])
                    else
                      bif !S.rin (Cf.down c) 1001 1000000 then
                        k (.str (bs [100, 111, 119, 110])) ([])
                      else
                        bif !S.rin (Cf.min c) 0 100 then
                          k (.str (bs [109, 105, 110])) ([])
                        else
                          bif !S.rin (Cf.initial c) 0 (Cf.max c) then
                            k (.str (bs [105, 110, 105, 116, 105, 97, 108])) ([])
                          else
                            bif !S.rin (Cf.grace c) 0 600 then
                              k (.str (bs [103, 114, 97, 99, 101])) ([])
                            else
                              bif !S.rin (Cf.delay c) 0 600 then
                                k (.str (bs [100, 101, 108, 97, 121])) ([])
                              else
                                bif !S.rin (Cf.burst c) 0 100000000 then
                                  k (.str (bs [98, 117, 114, 115, 116])) ([])
                                else
                                  bif !S.rin (Cf.limit c) 1 1000 then
                                    k (.str (bs [108, 105, 109, 105, 116])) ([])
                                  else
                                    bif !S.rin (Cf.queue c) 0 200 then
                                      k (.str (bs [113, 117, 101, 117, 101])) ([])
                                    else
                                      bif !S.rin (Cf.timeout c) 1 10000 then
                                        k (.str (bs [116, 105, 109, 101, 111, 117, 116])) ([])
                                      else
                                        bif !S.rin (Cf.ready c) 0 100 then
                                          k (.str (bs [114, 101, 97, 100, 121])) ([])
                                        else
                                          bif !S.rin (Cf.subset c) 0 100 then
                                            k (.str (bs [115, 117, 98, 115, 101, 116])) ([])
                                          else
                                            bif !S.rin (Cf.sample c) 0 100 then
                                              k (.str (bs [115, 97, 109, 112, 108, 101])) ([])
                                            else
                                              k (.str (bs [])) ([])
    else
      bif decide (Cf.burst c = -1000) then
        bif !S.rin (Cf.target c) 10 1000000 then
          k (.str (bs [116, 97, 114, 103, 101, 116])) ([])
        else
          bif !S.rin (Cf.util c) 100 1000 then
            k (.str (bs [117, 116, 105, 108])) ([])
          else
            bif !S.rin (Cf.stable c) 6 600 then
              k (.str (bs [115, 116, 97, 98, 108, 101])) ([])
            else
              bif !S.rin (Cf.panic c) 1 (Cf.stable c) then
                k (.str (bs [112, 97, 110, 105, 99])) ([])
              else
                bif !S.rin (Cf.grain c) 1 (Cf.panic c) then
                  k (.str (bs [103, 114, 97, 105, 110])) ([])
                else
                  bif !S.rin (Cf.threshold c) 1100 10000 then
                    k (.str (bs [116, 104, 114, 101, 115, 104, 111, 108, 100])) ([])
                  else
                    bif !S.rin (Cf.up c) 1001 1000000 then
                      k (.str (bs [117, 112])) ([])
                    else
                      bif !S.rin (Cf.down c) 1001 1000000 then
                        k (.str (bs [100, 111, 119, 110])) ([])
                      else
                        bif !S.rin (Cf.min c) 0 100 then
                          k (.str (bs [109, 105, 110])) ([])
                        else
                          bif !S.rin (Cf.max c) (if 1 > Cf.min c then 1 else Cf.min c) 100 then
                            k (.str (bs [109, 97, 120])) ([])
                          else
                            bif !S.rin (Cf.initial c) 0 (Cf.max c) then
                              k (.str (bs [105, 110, 105, 116, 105, 97, 108])) ([])
                            else
                              bif !S.rin (Cf.grace c) 0 600 then
                                k (.str (bs [103, 114, 97, 99, 101])) ([])
                              else
                                bif !S.rin (Cf.delay c) 0 600 then
                                  k (.str (bs [100, 101, 108, 97, 121])) ([])
                                else
                                  bif !S.rin (Cf.limit c) 1 1000 then
                                    k (.str (bs [108, 105, 109, 105, 116])) ([])
                                  else
                                    bif !S.rin (Cf.queue c) 0 200 then
                                      k (.str (bs [113, 117, 101, 117, 101])) ([])
                                    else
                                      bif !S.rin (Cf.timeout c) 1 10000 then
                                        k (.str (bs [116, 105, 109, 101, 111, 117, 116])) ([])
                                      else
                                        bif !S.rin (Cf.ready c) 0 100 then
                                          k (.str (bs [114, 101, 97, 100, 121])) ([])
                                        else
                                          bif !S.rin (Cf.subset c) 0 100 then
                                            k (.str (bs [115, 117, 98, 115, 101, 116])) ([])
                                          else
                                            bif !S.rin (Cf.sample c) 0 100 then
                                              k (.str (bs [115, 97, 109, 112, 108, 101])) ([])
                                            else
                                              k (.str (bs [])) ([])
      else
        bif !S.rin (Cf.target c) 10 1000000 then
          k (.str (bs [116, 97, 114, 103, 101, 116])) ([])
        else
          bif !S.rin (Cf.util c) 100 1000 then
            k (.str (bs [117, 116, 105, 108])) ([])
          else
            bif !S.rin (Cf.stable c) 6 600 then
              k (.str (bs [115, 116, 97, 98, 108, 101])) ([])
            else
              bif !S.rin (Cf.panic c) 1 (Cf.stable c) then
                k (.str (bs [112, 97, 110, 105, 99])) ([])
              else
                bif !S.rin (Cf.grain c) 1 (Cf.panic c) then
                  k (.str (bs [103, 114, 97, 105, 110])) ([])
                else
                  bif !S.rin (Cf.threshold c) 1100 10000 then
                    k (.str (bs [116, 104, 114, 101, 115, 104, 111, 108, 100])) ([])
                  else
                    bif !S.rin (Cf.up c) 1001 1000000 then
                      k (.str (bs [117, 112])) ([])
                    else
                      bif !S.rin (Cf.down c) 1001 1000000 then
                        k (.str (bs [100, 111, 119, 110])) ([])
                      else
                        bif !S.rin (Cf.min c) 0 100 then
                          k (.str (bs [109, 105, 110])) ([])
                        else
                          bif !S.rin (Cf.max c) (if 1 > Cf.min c then 1 else Cf.min c) 100 then
                            k (.str (bs [109, 97, 120])) ([])
                          else
                            bif !S.rin (Cf.initial c) 0 (Cf.max c) then
                              k (.str (bs [105, 110, 105, 116, 105, 97, 108])) ([])
                            else
                              bif !S.rin (Cf.grace c) 0 600 then
                                k (.str (bs [103, 114, 97, 99, 101])) ([])
                              else
                                bif !S.rin (Cf.delay c) 0 600 then
                                  k (.str (bs [100, 101, 108, 97, 121])) ([])
                                else
                                  bif !S.rin (Cf.burst c) 0 100000000 then
                                    k (.str (bs [98, 117, 114, 115, 116])) ([])
                                  else
                                    bif !S.rin (Cf.limit c) 1 1000 then
                                      k (.str (bs [108, 105, 109, 105, 116])) ([])
                                    else
                                      bif !S.rin (Cf.queue c) 0 200 then
                                        k (.str (bs [113, 117, 101, 117, 101])) ([])
                                      else
                                        bif !S.rin (Cf.timeout c) 1 10000 then
                                          k (.str (bs [116, 105, 109, 101, 111, 117, 116])) ([])
                                        else
                                          bif !S.rin (Cf.ready c) 0 100 then
                                            k (.str (bs [114, 101, 97, 100, 121])) ([])
                                          else
                                            bif !S.rin (Cf.subset c) 0 100 then
                                              k (.str (bs [115, 117, 98, 115, 101, 116])) ([])
                                            else
                                              bif !S.rin (Cf.sample c) 0 100 then
                                                k (.str (bs [115, 97, 109, 112, 108, 101])) ([])
                                              else
                                                k (.str (bs [])) ([])
  else
    bif decide (Cf.max c = 0) then
      bif decide (Cf.burst c = -1000) then
        bif !S.rin (Cf.target c) 10 1000000 then
          k (.str (bs [116, 97, 114, 103, 101, 116])) ([])
        else
          bif !S.rin (Cf.util c) 100 1000 then
            k (.str (bs [117, 116, 105, 108])) ([])
          else
            bif !S.rin (Cf.stable c) 6 600 then
              k (.str (bs [115, 116, 97, 98, 108, 101])) ([])
            else
              bif !S.rin (Cf.panic c) 1 (Cf.stable c) then
                k (.str (bs [112, 97, 110, 105, 99])) ([])
              else
                bif !S.rin (Cf.grain c) 1 (Cf.panic c) then
                  k (.str (bs [103, 114, 97, 105, 110])) ([])
                else
                  bif !S.rin (Cf.threshold c) 1100 10000 then
                    k (.str (bs [116, 104, 114, 101, 115, 104, 111, 108, 100])) ([])
                  else
                    bif !S.rin (Cf.up c) 1001 1000000 then
                      k (.str (bs [117, 112])) ([])
                    else
                      bif !S.rin (Cf.down c) 1001 1000000 then
                        k (.str (bs [100, 111, 119, 110])) ([])
                      else
                        bif !S.rin (Cf.min c) 0 100 then
                          k (.str (bs [109, 105, 110])) ([])
                        else
                          bif !S.rin (Cf.initial c) 0 100 then
                            k (.str (bs [105, 110, 105, 116, 105, 97, 108])) ([])
                          else
                            bif !S.rin (Cf.grace c) 0 600 then
                              k (.str (bs [103, 114, 97, 99, 101])) ([])
                            else
                              bif !S.rin (Cf.delay c) 0 600 then
                                k (.str (bs [100, 101, 108, 97, 121])) ([])
                              else
                                bif !S.rin (Cf.limit c) 1 1000 then
                                  k (.str (bs [108, 105, 109, 105, 116])) ([])
                                else
                                  bif !S.rin (Cf.queue c) 0 200 then
                                    k (.str (bs [113, 117, 101, 117, 101])) ([])
                                  else
                                    bif !S.rin (Cf.timeout c) 1 10000 then
                                      k (.str (bs [116, 105, 109, 101, 111, 117, 116])) ([])
                                    else
                                      bif !S.rin (Cf.ready c) 0 100 then
                                        k (.str (bs [114, 101, 97, 100, 121])) ([])
                                      else
                                        bif !S.rin (Cf.subset c) 0 100 then
                                          k (.str (bs [115, 117, 98, 115, 101, 116])) ([])
                                        else
                                          bif !S.rin (Cf.sample c) 0 100 then
                                            k (.str (bs [115, 97, 109, 112, 108, 101])) ([])
                                          else
                                            k (.str (bs [])) ([])
      else
        bif !S.rin (Cf.target c) 10 1000000 then
          k (.str (bs [116, 97, 114, 103, 101, 116])) ([])
        else
          bif !S.rin (Cf.util c) 100 1000 then
            k (.str (bs [117, 116, 105, 108])) ([])
          else
            bif !S.rin (Cf.stable c) 6 600 then
              k (.str (bs [115, 116, 97, 98, 108, 101])) ([])
            else
              bif !S.rin (Cf.panic c) 1 (Cf.stable c) then
                k (.str (bs [112, 97, 110, 105, 99])) ([])
              else
                bif !S.rin (Cf.grain c) 1 (Cf.panic c) then
                  k (.str (bs [103, 114, 97, 105, 110])) ([])
                else
                  bif !S.rin (Cf.threshold c) 1100 10000 then
                    k (.str (bs [116, 104, 114, 101, 115, 104, 111, 108, 100])) ([])
                  else
                    bif !S.rin (Cf.up c) 1001 1000000 then
                      k (.str (bs [117, 112])) ([])
                    else
                      bif !S.rin (Cf.down c) 1001 1000000 then
                        k (.str (bs [100, 111, 119, 110])) ([])
                      else
                        bif !S.rin (Cf.min c) 0 100 then
                          k (.str (bs [109, 105, 110])) ([])
                        else
                          bif !S.rin (Cf.initial c) 0 100 then
                            k (.str (bs [105, 110, 105, 116, 105, 97, 108])) ([])
                          else
                            bif !S.rin (Cf.grace c) 0 600 then
                              k (.str (bs [103, 114, 97, 99, 101])) ([])
                            else
                              bif !S.rin (Cf.delay c) 0 600 then
                                k (.str (bs [100, 101, 108, 97, 121])) ([])
                              else
                                bif !S.rin (Cf.burst c) 0 100000000 then
                                  k (.str (bs [98, 117, 114, 115, 116])) ([])
                                else
                                  bif !S.rin (Cf.limit c) 1 1000 then
                                    k (.str (bs [108, 105, 109, 105, 116])) ([])
                                  else
                                    bif !S.rin (Cf.queue c) 0 200 then
                                      k (.str (bs [113, 117, 101, 117, 101])) ([])
                                    else
                                      bif !S.rin (Cf.timeout c) 1 10000 then
                                        k (.str (bs [116, 105, 109, 101, 111, 117, 116])) ([])
                                      else
                                        bif !S.rin (Cf.ready c) 0 100 then
                                          k (.str (bs [114, 101, 97, 100, 121])) ([])
                                        else
                                          bif !S.rin (Cf.subset c) 0 100 then
                                            k (.str (bs [115, 117, 98, 115, 101, 116])) ([])
                                          else
                                            bif !S.rin (Cf.sample c) 0 100 then
                                              k (.str (bs [115, 97, 109, 112, 108, 101])) ([])
                                            else
                                              k (.str (bs [])) ([])
    else
      bif decide (Cf.burst c = -1000) then
        bif !S.rin (Cf.target c) 10 1000000 then
          k (.str (bs [116, 97, 114, 103, 101, 116])) ([])
        else
          bif !S.rin (Cf.util c) 100 1000 then
            k (.str (bs [117, 116, 105, 108])) ([])
          else
            bif !S.rin (Cf.stable c) 6 600 then
              k (.str (bs [115, 116, 97, 98, 108, 101])) ([])
            else
              bif !S.rin (Cf.panic c) 1 (Cf.stable c) then
                k (.str (bs [112, 97, 110, 105, 99])) ([])
              else
                bif !S.rin (Cf.grain c) 1 (Cf.panic c) then
                  k (.str (bs [103, 114, 97, 105, 110])) ([])
                else
                  bif !S.rin (Cf.threshold c) 1100 10000 then
                    k (.str (bs [116, 104, 114, 101, 115, 104, 111, 108, 100])) ([])
                  else
                    bif !S.rin (Cf.up c) 1001 1000000 then
                      k (.str (bs [117, 112])) ([])
                    else
                      bif !S.rin (Cf.down c) 1001 1000000 then
                        k (.str (bs [100, 111, 119, 110])) ([])
                      else
                        bif !S.rin (Cf.min c) 0 100 then
                          k (.str (bs [109, 105, 110])) ([])
                        else
                          bif !S.rin (Cf.max c) (if 1 > Cf.min c then 1 else Cf.min c) 100 then
                            k (.str (bs [109, 97, 120])) ([])
                          else
                            bif !S.rin (Cf.initial c) 0 100 then
                              k (.str (bs [105, 110, 105, 116, 105, 97, 108])) ([])
                            else
                              bif !S.rin (Cf.grace c) 0 600 then
                                k (.str (bs [103, 114, 97, 99, 101])) ([])
                              else
                                bif !S.rin (Cf.delay c) 0 600 then
                                  k (.str (bs [100, 101, 108, 97, 121])) ([])
                                else
                                  bif !S.rin (Cf.limit c) 1 1000 then
                                    k (.str (bs [108, 105, 109, 105, 116])) ([])
                                  else
                                    bif !S.rin (Cf.queue c) 0 200 then
                                      k (.str (bs [113, 117, 101, 117, 101])) ([])
                                    else
                                      bif !S.rin (Cf.timeout c) 1 10000 then
                                        k (.str (bs [116, 105, 109, 101, 111, 117, 116])) ([])
                                      else
                                        bif !S.rin (Cf.ready c) 0 100 then
                                          k (.str (bs [114, 101, 97, 100, 121])) ([])
                                        else
                                          bif !S.rin (Cf.subset c) 0 100 then
                                            k (.str (bs [115, 117, 98, 115, 101, 116])) ([])
                                          else
                                            bif !S.rin (Cf.sample c) 0 100 then
                                              k (.str (bs [115, 97, 109, 112, 108, 101])) ([])
                                            else
                                              k (.str (bs [])) ([])
      else
        bif !S.rin (Cf.target c) 10 1000000 then
          k (.str (bs [116, 97, 114, 103, 101, 116])) ([])
        else
          bif !S.rin (Cf.util c) 100 1000 then
            k (.str (bs [117, 116, 105, 108])) ([])
          else
            bif !S.rin (Cf.stable c) 6 600 then
              k (.str (bs [115, 116, 97, 98, 108, 101])) ([])
            else
              bif !S.rin (Cf.panic c) 1 (Cf.stable c) then
                k (.str (bs [112, 97, 110, 105, 99])) ([])
              else
                bif !S.rin (Cf.grain c) 1 (Cf.panic c) then
                  k (.str (bs [103, 114, 97, 105, 110])) ([])
                else
                  bif !S.rin (Cf.threshold c) 1100 10000 then
                    k (.str (bs [116, 104, 114, 101, 115, 104, 111, 108, 100])) ([])
                  else
                    bif !S.rin (Cf.up c) 1001 1000000 then
                      k (.str (bs [117, 112])) ([])
                    else
                      bif !S.rin (Cf.down c) 1001 1000000 then
                        k (.str (bs [100, 111, 119, 110])) ([])
                      else
                        bif !S.rin (Cf.min c) 0 100 then
                          k (.str (bs [109, 105, 110])) ([])
                        else
                          bif !S.rin (Cf.max c) (if 1 > Cf.min c then 1 else Cf.min c) 100 then
                            k (.str (bs [109, 97, 120])) ([])
                          else
                            bif !S.rin (Cf.initial c) 0 100 then
                              k (.str (bs [105, 110, 105, 116, 105, 97, 108])) ([])
                            else
                              bif !S.rin (Cf.grace c) 0 600 then
                                k (.str (bs [103, 114, 97, 99, 101])) ([])
                              else
                                bif !S.rin (Cf.delay c) 0 600 then
                                  k (.str (bs [100, 101, 108, 97, 121])) ([])
                                else
                                  bif !S.rin (Cf.burst c) 0 100000000 then
                                    k (.str (bs [98, 117, 114, 115, 116])) ([])
                                  else
                                    bif !S.rin (Cf.limit c) 1 1000 then
                                      k (.str (bs [108, 105, 109, 105, 116])) ([])
                                    else
                                      bif !S.rin (Cf.queue c) 0 200 then
                                        k (.str (bs [113, 117, 101, 117, 101])) ([])
                                      else
                                        bif !S.rin (Cf.timeout c) 1 10000 then
                                          k (.str (bs [116, 105, 109, 101, 111, 117, 116])) ([])
                                        else
                                          bif !S.rin (Cf.ready c) 0 100 then
                                            k (.str (bs [114, 101, 97, 100, 121])) ([])
                                          else
                                            bif !S.rin (Cf.subset c) 0 100 then
                                              k (.str (bs [115, 117, 98, 115, 101, 116])) ([])
                                            else
                                              bif !S.rin (Cf.sample c) 0 100 then
                                                k (.str (bs [115, 97, 109, 112, 108, 101])) ([])
                                              else
                                                k (.str (bs [])) ([])) := by kernel_rfl
def S.rwrong (c : Cf) : ByteArray :=
  bif decide (0 < Cf.max c) then
    bif decide (Cf.max c = 0) then
      bif decide (Cf.burst c = -1000) then
        bif !S.rin (Cf.target c) 10 1000000 then
          (bs [116, 97, 114, 103, 101, 116])
        else
          bif !S.rin (Cf.util c) 100 1000 then
            (bs [117, 116, 105, 108])
          else
            bif !S.rin (Cf.stable c) 6 600 then
              (bs [115, 116, 97, 98, 108, 101])
            else
              bif !S.rin (Cf.panic c) 1 (Cf.stable c) then
                (bs [112, 97, 110, 105, 99])
              else
                bif !S.rin (Cf.grain c) 1 (Cf.panic c) then
                  (bs [103, 114, 97, 105, 110])
                else
                  bif !S.rin (Cf.threshold c) 1100 10000 then
                    (bs [116, 104, 114, 101, 115, 104, 111, 108, 100])
                  else
                    bif !S.rin (Cf.up c) 1001 1000000 then
                      (bs [117, 112])
                    else
                      bif !S.rin (Cf.down c) 1001 1000000 then
                        (bs [100, 111, 119, 110])
                      else
                        bif !S.rin (Cf.min c) 0 100 then
                          (bs [109, 105, 110])
                        else
                          bif !S.rin (Cf.initial c) 0 (Cf.max c) then
                            (bs [105, 110, 105, 116, 105, 97, 108])
                          else
                            bif !S.rin (Cf.grace c) 0 600 then
                              (bs [103, 114, 97, 99, 101])
                            else
                              bif !S.rin (Cf.delay c) 0 600 then
                                (bs [100, 101, 108, 97, 121])
                              else
                                bif !S.rin (Cf.limit c) 1 1000 then
                                  (bs [108, 105, 109, 105, 116])
                                else
                                  bif !S.rin (Cf.queue c) 0 200 then
                                    (bs [113, 117, 101, 117, 101])
                                  else
                                    bif !S.rin (Cf.timeout c) 1 10000 then
                                      (bs [116, 105, 109, 101, 111, 117, 116])
                                    else
                                      bif !S.rin (Cf.ready c) 0 100 then
                                        (bs [114, 101, 97, 100, 121])
                                      else
                                        bif !S.rin (Cf.subset c) 0 100 then
                                          (bs [115, 117, 98, 115, 101, 116])
                                        else
                                          bif !S.rin (Cf.sample c) 0 100 then
                                            (bs [115, 97, 109, 112, 108, 101])
                                          else
                                            (bs [])
      else
        bif !S.rin (Cf.target c) 10 1000000 then
          (bs [116, 97, 114, 103, 101, 116])
        else
          bif !S.rin (Cf.util c) 100 1000 then
            (bs [117, 116, 105, 108])
          else
            bif !S.rin (Cf.stable c) 6 600 then
              (bs [115, 116, 97, 98, 108, 101])
            else
              bif !S.rin (Cf.panic c) 1 (Cf.stable c) then
                (bs [112, 97, 110, 105, 99])
              else
                bif !S.rin (Cf.grain c) 1 (Cf.panic c) then
                  (bs [103, 114, 97, 105, 110])
                else
                  bif !S.rin (Cf.threshold c) 1100 10000 then
                    (bs [116, 104, 114, 101, 115, 104, 111, 108, 100])
                  else
                    bif !S.rin (Cf.up c) 1001 1000000 then
                      (bs [117, 112])
                    else
                      bif !S.rin (Cf.down c) 1001 1000000 then
                        (bs [100, 111, 119, 110])
                      else
                        bif !S.rin (Cf.min c) 0 100 then
                          (bs [109, 105, 110])
                        else
                          bif !S.rin (Cf.initial c) 0 (Cf.max c) then
                            (bs [105, 110, 105, 116, 105, 97, 108])
                          else
                            bif !S.rin (Cf.grace c) 0 600 then
                              (bs [103, 114, 97, 99, 101])
                            else
                              bif !S.rin (Cf.delay c) 0 600 then
                                (bs [100, 101, 108, 97, 121])
                              else
                                bif !S.rin (Cf.burst c) 0 100000000 then
                                  (bs [98, 117, 114, 115, 116])
                                else
                                  bif !S.rin (Cf.limit c) 1 1000 then
                                    (bs [108, 105, 109, 105, 116])
                                  else
                                    bif !S.rin (Cf.queue c) 0 200 then
                                      (bs [113, 117, 101, 117, 101])
                                    else
                                      bif !S.rin (Cf.timeout c) 1 10000 then
                                        (bs [116, 105, 109, 101, 111, 117, 116])
                                      else
                                        bif !S.rin (Cf.ready c) 0 100 then
                                          (bs [114, 101, 97, 100, 121])
                                        else
                                          bif !S.rin (Cf.subset c) 0 100 then
                                            (bs [115, 117, 98, 115, 101, 116])
                                          else
                                            bif !S.rin (Cf.sample c) 0 100 then
                                              (bs [115, 97, 109, 112, 108, 101])
                                            else
                                              (bs [])
    else
      bif decide (Cf.burst c = -1000) then
        bif !S.rin (Cf.target c) 10 1000000 then
          (bs [116, 97, 114, 103, 101, 116])
        else
          bif !S.rin (Cf.util c) 100 1000 then
            (bs [117, 116, 105, 108])
          else
            bif !S.rin (Cf.stable c) 6 600 then
              (bs [115, 116, 97, 98, 108, 101])
            else
              bif !S.rin (Cf.panic c) 1 (Cf.stable c) then
                (bs [112, 97, 110, 105, 99])
              else
                bif !S.rin (Cf.grain c) 1 (Cf.panic c) then
                  (bs [103, 114, 97, 105, 110])
                else
                  bif !S.rin (Cf.threshold c) 1100 10000 then
                    (bs [116, 104, 114, 101, 115, 104, 111, 108, 100])
                  else
                    bif !S.rin (Cf.up c) 1001 1000000 then
                      (bs [117, 112])
                    else
                      bif !S.rin (Cf.down c) 1001 1000000 then
                        (bs [100, 111, 119, 110])
                      else
                        bif !S.rin (Cf.min c) 0 100 then
                          (bs [109, 105, 110])
                        else
                          bif !S.rin (Cf.max c) (if 1 > Cf.min c then 1 else Cf.min c) 100 then
                            (bs [109, 97, 120])
                          else
                            bif !S.rin (Cf.initial c) 0 (Cf.max c) then
                              (bs [105, 110, 105, 116, 105, 97, 108])
                            else
                              bif !S.rin (Cf.grace c) 0 600 then
                                (bs [103, 114, 97, 99, 101])
                              else
                                bif !S.rin (Cf.delay c) 0 600 then
                                  (bs [100, 101, 108, 97, 121])
                                else
                                  bif !S.rin (Cf.limit c) 1 1000 then
                                    (bs [108, 105, 109, 105, 116])
                                  else
                                    bif !S.rin (Cf.queue c) 0 200 then
                                      (bs [113, 117, 101, 117, 101])
                                    else
                                      bif !S.rin (Cf.timeout c) 1 10000 then
                                        (bs [116, 105, 109, 101, 111, 117, 116])
                                      else
                                        bif !S.rin (Cf.ready c) 0 100 then
                                          (bs [114, 101, 97, 100, 121])
                                        else
                                          bif !S.rin (Cf.subset c) 0 100 then
                                            (bs [115, 117, 98, 115, 101, 116])
                                          else
                                            bif !S.rin (Cf.sample c) 0 100 then
                                              (bs [115, 97, 109, 112, 108, 101])
                                            else
                                              (bs [])
      else
        bif !S.rin (Cf.target c) 10 1000000 then
          (bs [116, 97, 114, 103, 101, 116])
        else
          bif !S.rin (Cf.util c) 100 1000 then
            (bs [117, 116, 105, 108])
          else
            bif !S.rin (Cf.stable c) 6 600 then
              (bs [115, 116, 97, 98, 108, 101])
            else
              bif !S.rin (Cf.panic c) 1 (Cf.stable c) then
                (bs [112, 97, 110, 105, 99])
              else
                bif !S.rin (Cf.grain c) 1 (Cf.panic c) then
                  (bs [103, 114, 97, 105, 110])
                else
                  bif !S.rin (Cf.threshold c) 1100 10000 then
                    (bs [116, 104, 114, 101, 115, 104, 111, 108, 100])
                  else
                    bif !S.rin (Cf.up c) 1001 1000000 then
                      (bs [117, 112])
                    else
                      bif !S.rin (Cf.down c) 1001 1000000 then
                        (bs [100, 111, 119, 110])
                      else
                        bif !S.rin (Cf.min c) 0 100 then
                          (bs [109, 105, 110])
                        else
                          bif !S.rin (Cf.max c) (if 1 > Cf.min c then 1 else Cf.min c) 100 then
                            (bs [109, 97, 120])
                          else
                            bif !S.rin (Cf.initial c) 0 (Cf.max c) then
                              (bs [105, 110, 105, 116, 105, 97, 108])
                            else
                              bif !S.rin (Cf.grace c) 0 600 then
                                (bs [103, 114, 97, 99, 101])
                              else
                                bif !S.rin (Cf.delay c) 0 600 then
                                  (bs [100, 101, 108, 97, 121])
                                else
                                  bif !S.rin (Cf.burst c) 0 100000000 then
                                    (bs [98, 117, 114, 115, 116])
                                  else
                                    bif !S.rin (Cf.limit c) 1 1000 then
                                      (bs [108, 105, 109, 105, 116])
                                    else
                                      bif !S.rin (Cf.queue c) 0 200 then
                                        (bs [113, 117, 101, 117, 101])
                                      else
                                        bif !S.rin (Cf.timeout c) 1 10000 then
                                          (bs [116, 105, 109, 101, 111, 117, 116])
                                        else
                                          bif !S.rin (Cf.ready c) 0 100 then
                                            (bs [114, 101, 97, 100, 121])
                                          else
                                            bif !S.rin (Cf.subset c) 0 100 then
                                              (bs [115, 117, 98, 115, 101, 116])
                                            else
                                              bif !S.rin (Cf.sample c) 0 100 then
                                                (bs [115, 97, 109, 112, 108, 101])
                                              else
                                                (bs [])
  else
    bif decide (Cf.max c = 0) then
      bif decide (Cf.burst c = -1000) then
        bif !S.rin (Cf.target c) 10 1000000 then
          (bs [116, 97, 114, 103, 101, 116])
        else
          bif !S.rin (Cf.util c) 100 1000 then
            (bs [117, 116, 105, 108])
          else
            bif !S.rin (Cf.stable c) 6 600 then
              (bs [115, 116, 97, 98, 108, 101])
            else
              bif !S.rin (Cf.panic c) 1 (Cf.stable c) then
                (bs [112, 97, 110, 105, 99])
              else
                bif !S.rin (Cf.grain c) 1 (Cf.panic c) then
                  (bs [103, 114, 97, 105, 110])
                else
                  bif !S.rin (Cf.threshold c) 1100 10000 then
                    (bs [116, 104, 114, 101, 115, 104, 111, 108, 100])
                  else
                    bif !S.rin (Cf.up c) 1001 1000000 then
                      (bs [117, 112])
                    else
                      bif !S.rin (Cf.down c) 1001 1000000 then
                        (bs [100, 111, 119, 110])
                      else
                        bif !S.rin (Cf.min c) 0 100 then
                          (bs [109, 105, 110])
                        else
                          bif !S.rin (Cf.initial c) 0 100 then
                            (bs [105, 110, 105, 116, 105, 97, 108])
                          else
                            bif !S.rin (Cf.grace c) 0 600 then
                              (bs [103, 114, 97, 99, 101])
                            else
                              bif !S.rin (Cf.delay c) 0 600 then
                                (bs [100, 101, 108, 97, 121])
                              else
                                bif !S.rin (Cf.limit c) 1 1000 then
                                  (bs [108, 105, 109, 105, 116])
                                else
                                  bif !S.rin (Cf.queue c) 0 200 then
                                    (bs [113, 117, 101, 117, 101])
                                  else
                                    bif !S.rin (Cf.timeout c) 1 10000 then
                                      (bs [116, 105, 109, 101, 111, 117, 116])
                                    else
                                      bif !S.rin (Cf.ready c) 0 100 then
                                        (bs [114, 101, 97, 100, 121])
                                      else
                                        bif !S.rin (Cf.subset c) 0 100 then
                                          (bs [115, 117, 98, 115, 101, 116])
                                        else
                                          bif !S.rin (Cf.sample c) 0 100 then
                                            (bs [115, 97, 109, 112, 108, 101])
                                          else
                                            (bs [])
      else
        bif !S.rin (Cf.target c) 10 1000000 then
          (bs [116, 97, 114, 103, 101, 116])
        else
          bif !S.rin (Cf.util c) 100 1000 then
            (bs [117, 116, 105, 108])
          else
            bif !S.rin (Cf.stable c) 6 600 then
              (bs [115, 116, 97, 98, 108, 101])
            else
              bif !S.rin (Cf.panic c) 1 (Cf.stable c) then
                (bs [112, 97, 110, 105, 99])
              else
                bif !S.rin (Cf.grain c) 1 (Cf.panic c) then
                  (bs [103, 114, 97, 105, 110])
                else
                  bif !S.rin (Cf.threshold c) 1100 10000 then
                    (bs [116, 104, 114, 101, 115, 104, 111, 108, 100])
                  else
                    bif !S.rin (Cf.up c) 1001 1000000 then
                      (bs [117, 112])
                    else
                      bif !S.rin (Cf.down c) 1001 1000000 then
                        (bs [100, 111, 119, 110])
                      else
                        bif !S.rin (Cf.min c) 0 100 then
                          (bs [109, 105, 110])
                        else
                          bif !S.rin (Cf.initial c) 0 100 then
                            (bs [105, 110, 105, 116, 105, 97, 108])
                          else
                            bif !S.rin (Cf.grace c) 0 600 then
                              (bs [103, 114, 97, 99, 101])
                            else
                              bif !S.rin (Cf.delay c) 0 600 then
                                (bs [100, 101, 108, 97, 121])
                              else
                                bif !S.rin (Cf.burst c) 0 100000000 then
                                  (bs [98, 117, 114, 115, 116])
                                else
                                  bif !S.rin (Cf.limit c) 1 1000 then
                                    (bs [108, 105, 109, 105, 116])
                                  else
                                    bif !S.rin (Cf.queue c) 0 200 then
                                      (bs [113, 117, 101, 117, 101])
                                    else
                                      bif !S.rin (Cf.timeout c) 1 10000 then
                                        (bs [116, 105, 109, 101, 111, 117, 116])
                                      else
                                        bif !S.rin (Cf.ready c) 0 100 then
                                          (bs [114, 101, 97, 100, 121])
                                        else
                                          bif !S.rin (Cf.subset c) 0 100 then
                                            (bs [115, 117, 98, 115, 101, 116])
                                          else
                                            bif !S.rin (Cf.sample c) 0 100 then
                                              (bs [115, 97, 109, 112, 108, 101])
                                            else
                                              (bs [])
    else
      bif decide (Cf.burst c = -1000) then
        bif !S.rin (Cf.target c) 10 1000000 then
          (bs [116, 97, 114, 103, 101, 116])
        else
          bif !S.rin (Cf.util c) 100 1000 then
            (bs [117, 116, 105, 108])
          else
            bif !S.rin (Cf.stable c) 6 600 then
              (bs [115, 116, 97, 98, 108, 101])
            else
              bif !S.rin (Cf.panic c) 1 (Cf.stable c) then
                (bs [112, 97, 110, 105, 99])
              else
                bif !S.rin (Cf.grain c) 1 (Cf.panic c) then
                  (bs [103, 114, 97, 105, 110])
                else
                  bif !S.rin (Cf.threshold c) 1100 10000 then
                    (bs [116, 104, 114, 101, 115, 104, 111, 108, 100])
                  else
                    bif !S.rin (Cf.up c) 1001 1000000 then
                      (bs [117, 112])
                    else
                      bif !S.rin (Cf.down c) 1001 1000000 then
                        (bs [100, 111, 119, 110])
                      else
                        bif !S.rin (Cf.min c) 0 100 then
                          (bs [109, 105, 110])
                        else
                          bif !S.rin (Cf.max c) (if 1 > Cf.min c then 1 else Cf.min c) 100 then
                            (bs [109, 97, 120])
                          else
                            bif !S.rin (Cf.initial c) 0 100 then
                              (bs [105, 110, 105, 116, 105, 97, 108])
                            else
                              bif !S.rin (Cf.grace c) 0 600 then
                                (bs [103, 114, 97, 99, 101])
                              else
                                bif !S.rin (Cf.delay c) 0 600 then
                                  (bs [100, 101, 108, 97, 121])
                                else
                                  bif !S.rin (Cf.limit c) 1 1000 then
                                    (bs [108, 105, 109, 105, 116])
                                  else
                                    bif !S.rin (Cf.queue c) 0 200 then
                                      (bs [113, 117, 101, 117, 101])
                                    else
                                      bif !S.rin (Cf.timeout c) 1 10000 then
                                        (bs [116, 105, 109, 101, 111, 117, 116])
                                      else
                                        bif !S.rin (Cf.ready c) 0 100 then
                                          (bs [114, 101, 97, 100, 121])
                                        else
                                          bif !S.rin (Cf.subset c) 0 100 then
                                            (bs [115, 117, 98, 115, 101, 116])
                                          else
                                            bif !S.rin (Cf.sample c) 0 100 then
                                              (bs [115, 97, 109, 112, 108, 101])
                                            else
                                              (bs [])
      else
        bif !S.rin (Cf.target c) 10 1000000 then
          (bs [116, 97, 114, 103, 101, 116])
        else
          bif !S.rin (Cf.util c) 100 1000 then
            (bs [117, 116, 105, 108])
          else
            bif !S.rin (Cf.stable c) 6 600 then
              (bs [115, 116, 97, 98, 108, 101])
            else
              bif !S.rin (Cf.panic c) 1 (Cf.stable c) then
                (bs [112, 97, 110, 105, 99])
              else
                bif !S.rin (Cf.grain c) 1 (Cf.panic c) then
                  (bs [103, 114, 97, 105, 110])
                else
                  bif !S.rin (Cf.threshold c) 1100 10000 then
                    (bs [116, 104, 114, 101, 115, 104, 111, 108, 100])
                  else
                    bif !S.rin (Cf.up c) 1001 1000000 then
                      (bs [117, 112])
                    else
                      bif !S.rin (Cf.down c) 1001 1000000 then
                        (bs [100, 111, 119, 110])
                      else
                        bif !S.rin (Cf.min c) 0 100 then
                          (bs [109, 105, 110])
                        else
                          bif !S.rin (Cf.max c) (if 1 > Cf.min c then 1 else Cf.min c) 100 then
                            (bs [109, 97, 120])
                          else
                            bif !S.rin (Cf.initial c) 0 100 then
                              (bs [105, 110, 105, 116, 105, 97, 108])
                            else
                              bif !S.rin (Cf.grace c) 0 600 then
                                (bs [103, 114, 97, 99, 101])
                              else
                                bif !S.rin (Cf.delay c) 0 600 then
                                  (bs [100, 101, 108, 97, 121])
                                else
                                  bif !S.rin (Cf.burst c) 0 100000000 then
                                    (bs [98, 117, 114, 115, 116])
                                  else
                                    bif !S.rin (Cf.limit c) 1 1000 then
                                      (bs [108, 105, 109, 105, 116])
                                    else
                                      bif !S.rin (Cf.queue c) 0 200 then
                                        (bs [113, 117, 101, 117, 101])
                                      else
                                        bif !S.rin (Cf.timeout c) 1 10000 then
                                          (bs [116, 105, 109, 101, 111, 117, 116])
                                        else
                                          bif !S.rin (Cf.ready c) 0 100 then
                                            (bs [114, 101, 97, 100, 121])
                                          else
                                            bif !S.rin (Cf.subset c) 0 100 then
                                              (bs [115, 117, 98, 115, 101, 116])
                                            else
                                              bif !S.rin (Cf.sample c) 0 100 then
                                                (bs [115, 97, 109, 112, 108, 101])
                                              else
                                                (bs [])
theorem S.rwrong_v {R : Type} (c : Cf) (k : AVal → List Blk → Option R) : fnEval tis F38 40 G50 Try.f38 [.agg (cfA c)] [] k = k (.str (S.rwrong c)) [] :=
  (S.rwrong_k c k).trans (bif_lift (f := (fun v : ByteArray => k (.str v) [])) (bif_lift (f := (fun v : ByteArray => k (.str v) [])) (bif_lift (f := (fun v : ByteArray => k (.str v) [])) (bif_lift (f := (fun v : ByteArray => k (.str v) [])) rfl (bif_lift (f := (fun v : ByteArray => k (.str v) [])) rfl (bif_lift (f := (fun v : ByteArray => k (.str v) [])) rfl (bif_lift (f := (fun v : ByteArray => k (.str v) [])) rfl (bif_lift (f := (fun v : ByteArray => k (.str v) [])) rfl (bif_lift (f := (fun v : ByteArray => k (.str v) [])) rfl (bif_lift (f := (fun v : ByteArray => k (.str v) [])) rfl (bif_lift (f := (fun v : ByteArray => k (.str v) [])) rfl (bif_lift (f := (fun v : ByteArray => k (.str v) [])) rfl (bif_lift (f := (fun v : ByteArray => k (.str v) [])) rfl (bif_lift (f := (fun v : ByteArray => k (.str v) [])) rfl (bif_lift (f := (fun v : ByteArray => k (.str v) [])) rfl (bif_lift (f := (fun v : ByteArray => k (.str v) [])) rfl (bif_lift (f := (fun v : ByteArray => k (.str v) [])) rfl (bif_lift (f := (fun v : ByteArray => k (.str v) [])) rfl (bif_lift (f := (fun v : ByteArray => k (.str v) [])) rfl (bif_lift (f := (fun v : ByteArray => k (.str v) [])) rfl (bif_lift (f := (fun v : ByteArray => k (.str v) [])) rfl rfl)))))))))))))))))) (bif_lift (f := (fun v : ByteArray => k (.str v) [])) rfl (bif_lift (f := (fun v : ByteArray => k (.str v) [])) rfl (bif_lift (f := (fun v : ByteArray => k (.str v) [])) rfl (bif_lift (f := (fun v : ByteArray => k (.str v) [])) rfl (bif_lift (f := (fun v : ByteArray => k (.str v) [])) rfl (bif_lift (f := (fun v : ByteArray => k (.str v) [])) rfl (bif_lift (f := (fun v : ByteArray => k (.str v) [])) rfl (bif_lift (f := (fun v : ByteArray => k (.str v) [])) rfl (bif_lift (f := (fun v : ByteArray => k (.str v) [])) rfl (bif_lift (f := (fun v : ByteArray => k (.str v) [])) rfl (bif_lift (f := (fun v : ByteArray => k (.str v) [])) rfl (bif_lift (f := (fun v : ByteArray => k (.str v) [])) rfl (bif_lift (f := (fun v : ByteArray => k (.str v) [])) rfl (bif_lift (f := (fun v : ByteArray => k (.str v) [])) rfl (bif_lift (f := (fun v : ByteArray => k (.str v) [])) rfl (bif_lift (f := (fun v : ByteArray => k (.str v) [])) rfl (bif_lift (f := (fun v : ByteArray => k (.str v) [])) rfl (bif_lift (f := (fun v : ByteArray => k (.str v) [])) rfl (bif_lift (f := (fun v : ByteArray => k (.str v) [])) rfl rfl)))))))))))))))))))) (bif_lift (f := (fun v : ByteArray => k (.str v) [])) (bif_lift (f := (fun v : ByteArray => k (.str v) [])) rfl (bif_lift (f := (fun v : ByteArray => k (.str v) [])) rfl (bif_lift (f := (fun v : ByteArray => k (.str v) [])) rfl (bif_lift (f := (fun v : ByteArray => k (.str v) [])) rfl (bif_lift (f := (fun v : ByteArray => k (.str v) [])) rfl (bif_lift (f := (fun v : ByteArray => k (.str v) [])) rfl (bif_lift (f := (fun v : ByteArray => k (.str v) [])) rfl (bif_lift (f := (fun v : ByteArray => k (.str v) [])) rfl (bif_lift (f := (fun v : ByteArray => k (.str v) [])) rfl (bif_lift (f := (fun v : ByteArray => k (.str v) [])) rfl (bif_lift (f := (fun v : ByteArray => k (.str v) [])) rfl (bif_lift (f := (fun v : ByteArray => k (.str v) [])) rfl (bif_lift (f := (fun v : ByteArray => k (.str v) [])) rfl (bif_lift (f := (fun v : ByteArray => k (.str v) [])) rfl (bif_lift (f := (fun v : ByteArray => k (.str v) [])) rfl (bif_lift (f := (fun v : ByteArray => k (.str v) [])) rfl (bif_lift (f := (fun v : ByteArray => k (.str v) [])) rfl (bif_lift (f := (fun v : ByteArray => k (.str v) [])) rfl (bif_lift (f := (fun v : ByteArray => k (.str v) [])) rfl rfl))))))))))))))))))) (bif_lift (f := (fun v : ByteArray => k (.str v) [])) rfl (bif_lift (f := (fun v : ByteArray => k (.str v) [])) rfl (bif_lift (f := (fun v : ByteArray => k (.str v) [])) rfl (bif_lift (f := (fun v : ByteArray => k (.str v) [])) rfl (bif_lift (f := (fun v : ByteArray => k (.str v) [])) rfl (bif_lift (f := (fun v : ByteArray => k (.str v) [])) rfl (bif_lift (f := (fun v : ByteArray => k (.str v) [])) rfl (bif_lift (f := (fun v : ByteArray => k (.str v) [])) rfl (bif_lift (f := (fun v : ByteArray => k (.str v) [])) rfl (bif_lift (f := (fun v : ByteArray => k (.str v) [])) rfl (bif_lift (f := (fun v : ByteArray => k (.str v) [])) rfl (bif_lift (f := (fun v : ByteArray => k (.str v) [])) rfl (bif_lift (f := (fun v : ByteArray => k (.str v) [])) rfl (bif_lift (f := (fun v : ByteArray => k (.str v) [])) rfl (bif_lift (f := (fun v : ByteArray => k (.str v) [])) rfl (bif_lift (f := (fun v : ByteArray => k (.str v) [])) rfl (bif_lift (f := (fun v : ByteArray => k (.str v) [])) rfl (bif_lift (f := (fun v : ByteArray => k (.str v) [])) rfl (bif_lift (f := (fun v : ByteArray => k (.str v) [])) rfl (bif_lift (f := (fun v : ByteArray => k (.str v) [])) rfl rfl)))))))))))))))))))))) (bif_lift (f := (fun v : ByteArray => k (.str v) [])) (bif_lift (f := (fun v : ByteArray => k (.str v) [])) (bif_lift (f := (fun v : ByteArray => k (.str v) [])) rfl (bif_lift (f := (fun v : ByteArray => k (.str v) [])) rfl (bif_lift (f := (fun v : ByteArray => k (.str v) [])) rfl (bif_lift (f := (fun v : ByteArray => k (.str v) [])) rfl (bif_lift (f := (fun v : ByteArray => k (.str v) [])) rfl (bif_lift (f := (fun v : ByteArray => k (.str v) [])) rfl (bif_lift (f := (fun v : ByteArray => k (.str v) [])) rfl (bif_lift (f := (fun v : ByteArray => k (.str v) [])) rfl (bif_lift (f := (fun v : ByteArray => k (.str v) [])) rfl (bif_lift (f := (fun v : ByteArray => k (.str v) [])) rfl (bif_lift (f := (fun v : ByteArray => k (.str v) [])) rfl (bif_lift (f := (fun v : ByteArray => k (.str v) [])) rfl (bif_lift (f := (fun v : ByteArray => k (.str v) [])) rfl (bif_lift (f := (fun v : ByteArray => k (.str v) [])) rfl (bif_lift (f := (fun v : ByteArray => k (.str v) [])) rfl (bif_lift (f := (fun v : ByteArray => k (.str v) [])) rfl (bif_lift (f := (fun v : ByteArray => k (.str v) [])) rfl (bif_lift (f := (fun v : ByteArray => k (.str v) [])) rfl rfl)))))))))))))))))) (bif_lift (f := (fun v : ByteArray => k (.str v) [])) rfl (bif_lift (f := (fun v : ByteArray => k (.str v) [])) rfl (bif_lift (f := (fun v : ByteArray => k (.str v) [])) rfl (bif_lift (f := (fun v : ByteArray => k (.str v) [])) rfl (bif_lift (f := (fun v : ByteArray => k (.str v) [])) rfl (bif_lift (f := (fun v : ByteArray => k (.str v) [])) rfl (bif_lift (f := (fun v : ByteArray => k (.str v) [])) rfl (bif_lift (f := (fun v : ByteArray => k (.str v) [])) rfl (bif_lift (f := (fun v : ByteArray => k (.str v) [])) rfl (bif_lift (f := (fun v : ByteArray => k (.str v) [])) rfl (bif_lift (f := (fun v : ByteArray => k (.str v) [])) rfl (bif_lift (f := (fun v : ByteArray => k (.str v) [])) rfl (bif_lift (f := (fun v : ByteArray => k (.str v) [])) rfl (bif_lift (f := (fun v : ByteArray => k (.str v) [])) rfl (bif_lift (f := (fun v : ByteArray => k (.str v) [])) rfl (bif_lift (f := (fun v : ByteArray => k (.str v) [])) rfl (bif_lift (f := (fun v : ByteArray => k (.str v) [])) rfl (bif_lift (f := (fun v : ByteArray => k (.str v) [])) rfl (bif_lift (f := (fun v : ByteArray => k (.str v) [])) rfl rfl)))))))))))))))))))) (bif_lift (f := (fun v : ByteArray => k (.str v) [])) (bif_lift (f := (fun v : ByteArray => k (.str v) [])) rfl (bif_lift (f := (fun v : ByteArray => k (.str v) [])) rfl (bif_lift (f := (fun v : ByteArray => k (.str v) [])) rfl (bif_lift (f := (fun v : ByteArray => k (.str v) [])) rfl (bif_lift (f := (fun v : ByteArray => k (.str v) [])) rfl (bif_lift (f := (fun v : ByteArray => k (.str v) [])) rfl (bif_lift (f := (fun v : ByteArray => k (.str v) [])) rfl (bif_lift (f := (fun v : ByteArray => k (.str v) [])) rfl (bif_lift (f := (fun v : ByteArray => k (.str v) [])) rfl (bif_lift (f := (fun v : ByteArray => k (.str v) [])) rfl (bif_lift (f := (fun v : ByteArray => k (.str v) [])) rfl (bif_lift (f := (fun v : ByteArray => k (.str v) [])) rfl (bif_lift (f := (fun v : ByteArray => k (.str v) [])) rfl (bif_lift (f := (fun v : ByteArray => k (.str v) [])) rfl (bif_lift (f := (fun v : ByteArray => k (.str v) [])) rfl (bif_lift (f := (fun v : ByteArray => k (.str v) [])) rfl (bif_lift (f := (fun v : ByteArray => k (.str v) [])) rfl (bif_lift (f := (fun v : ByteArray => k (.str v) [])) rfl (bif_lift (f := (fun v : ByteArray => k (.str v) [])) rfl rfl))))))))))))))))))) (bif_lift (f := (fun v : ByteArray => k (.str v) [])) rfl (bif_lift (f := (fun v : ByteArray => k (.str v) [])) rfl (bif_lift (f := (fun v : ByteArray => k (.str v) [])) rfl (bif_lift (f := (fun v : ByteArray => k (.str v) [])) rfl (bif_lift (f := (fun v : ByteArray => k (.str v) [])) rfl (bif_lift (f := (fun v : ByteArray => k (.str v) [])) rfl (bif_lift (f := (fun v : ByteArray => k (.str v) [])) rfl (bif_lift (f := (fun v : ByteArray => k (.str v) [])) rfl (bif_lift (f := (fun v : ByteArray => k (.str v) [])) rfl (bif_lift (f := (fun v : ByteArray => k (.str v) [])) rfl (bif_lift (f := (fun v : ByteArray => k (.str v) [])) rfl (bif_lift (f := (fun v : ByteArray => k (.str v) [])) rfl (bif_lift (f := (fun v : ByteArray => k (.str v) [])) rfl (bif_lift (f := (fun v : ByteArray => k (.str v) [])) rfl (bif_lift (f := (fun v : ByteArray => k (.str v) [])) rfl (bif_lift (f := (fun v : ByteArray => k (.str v) [])) rfl (bif_lift (f := (fun v : ByteArray => k (.str v) [])) rfl (bif_lift (f := (fun v : ByteArray => k (.str v) [])) rfl (bif_lift (f := (fun v : ByteArray => k (.str v) [])) rfl (bif_lift (f := (fun v : ByteArray => k (.str v) [])) rfl rfl)))))))))))))))))))))))
def H38 : Hnd := fun R args σ k => match args, σ with
  | [.agg [.int .i64 target_, .int .i64 util_, .int .i64 stable_, .int .i64 panic_, .int .i64 grain_, .int .i64 threshold_, .int .i64 up_, .int .i64 down_, .int .i64 min_, .int .i64 max_, .int .i64 initial_, .int .i64 grace_, .int .i64 delay_, .int .i64 burst_, .int .i64 limit_, .int .i64 queue_, .int .i64 timeout_, .int .i64 ready_, .int .i64 subset_, .int .i64 sample_]], [] => k (.str (S.rwrong ⟨target_, util_, stable_, panic_, grain_, threshold_, up_, down_, min_, max_, initial_, grace_, delay_, burst_, limit_, queue_, timeout_, ready_, subset_, sample_⟩)) []
  | _, _ => none
theorem H38_ok : HndOk Try.prog 38 H38 := hnd_ok tis tisOk mixOk G50_ok F38 Try.func38 rfl (by
  intro R args σ k r h
  unfold H38 at h
  split at h
  · rename_i target_ util_ stable_ panic_ grain_ threshold_ up_ down_ min_ max_ initial_ grace_ delay_ burst_ limit_ queue_ timeout_ ready_ subset_ sample_; exact ⟨40, (S.rwrong_v ⟨target_, util_, stable_, panic_, grain_, threshold_, up_, down_, min_, max_, initial_, grace_, delay_, burst_, limit_, queue_, timeout_, ready_, subset_, sample_⟩ _).trans h⟩
  · cases h)
def G38 : Env := Env.add 38 H38 G50
theorem G38_ok : EnvOk Try.prog G38 := envAdd_ok H38_ok G50_ok

/-! spinnakerref1.May -/
def F23 : FCfg := ⟨keepAt [(0, [1, 3, 4, 5]), (1, [2])], loopAt [], []⟩
theorem S.rmay_k {R : Type} (c : Cf) (k : AVal → List Blk → Option R) : fnEval tis F23 0 G38 Try.f23 [.agg (cfA c)] [] k =
  (k (.bool (Array.toList (ByteArray.data (S.rwrong (Cf.mk (Cf.target c) (Cf.util c) (Cf.stable c) (Cf.panic c) (Cf.grain c) (Cf.threshold c) (Cf.up c) (Cf.down c) (Cf.min c) (Cf.max c) (Cf.initial c) (Cf.grace c) (Cf.delay c) (Cf.burst c) (Cf.limit c) (Cf.queue c) (Cf.timeout c) (Cf.ready c) (Cf.subset c) (Cf.sample c)))) == Array.toList (ByteArray.data (bs [])))) ([])) := by kernel_rfl
def S.rmay (c : Cf) : Bool :=
  (Array.toList (ByteArray.data (S.rwrong (Cf.mk (Cf.target c) (Cf.util c) (Cf.stable c) (Cf.panic c) (Cf.grain c) (Cf.threshold c) (Cf.up c) (Cf.down c) (Cf.min c) (Cf.max c) (Cf.initial c) (Cf.grace c) (Cf.delay c) (Cf.burst c) (Cf.limit c) (Cf.queue c) (Cf.timeout c) (Cf.ready c) (Cf.subset c) (Cf.sample c)))) == Array.toList (ByteArray.data (bs [])))
theorem S.rmay_v {R : Type} (c : Cf) (k : AVal → List Blk → Option R) : fnEval tis F23 0 G38 Try.f23 [.agg (cfA c)] [] k = k (.bool (S.rmay c)) [] :=
  (S.rmay_k c k).trans rfl
def H23 : Hnd := fun R args σ k => match args, σ with
  | [.agg [.int .i64 target_, .int .i64 util_, .int .i64 stable_, .int .i64 panic_, .int .i64 grain_, .int .i64 threshold_, .int .i64 up_, .int .i64 down_, .int .i64 min_, .int .i64 max_, .int .i64 initial_, .int .i64 grace_, .int .i64 delay_, .int .i64 burst_, .int .i64 limit_, .int .i64 queue_, .int .i64 timeout_, .int .i64 ready_, .int .i64 subset_, .int .i64 sample_]], [] => k (.bool (S.rmay ⟨target_, util_, stable_, panic_, grain_, threshold_, up_, down_, min_, max_, initial_, grace_, delay_, burst_, limit_, queue_, timeout_, ready_, subset_, sample_⟩)) []
  | _, _ => none
theorem H23_ok : HndOk Try.prog 23 H23 := hnd_ok tis tisOk mixOk G38_ok F23 Try.func23 rfl (by
  intro R args σ k r h
  unfold H23 at h
  split at h
  · rename_i target_ util_ stable_ panic_ grain_ threshold_ up_ down_ min_ max_ initial_ grace_ delay_ burst_ limit_ queue_ timeout_ ready_ subset_ sample_; exact ⟨0, (S.rmay_v ⟨target_, util_, stable_, panic_, grain_, threshold_, up_, down_, min_, max_, initial_, grace_, delay_, burst_, limit_, queue_, timeout_, ready_, subset_, sample_⟩ _).trans h⟩
  · cases h)
def G23 : Env := Env.add 23 H23 G38
theorem G23_ok : EnvOk Try.prog G23 := envAdd_ok H23_ok G38_ok
end Go.Proofs.Ytdcfjndlmmldpaa.AB
