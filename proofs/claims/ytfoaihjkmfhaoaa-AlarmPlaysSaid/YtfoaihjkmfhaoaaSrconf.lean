/- The document's functions of the settings, as plain functions. -/
import Derived.Test.YtfoaihjkmfhaoaaSconf
namespace Go.Proofs.Ytfoaihjkmfhaoaa.AB
set_option linter.unusedVariables false

/-! spinnakerref1.in -/
def F70 : FCfg := ⟨keepAt [(0, [0, 1, 2, 7, 8, 9, 10, 11, 12, 13, 14]), (1, [6])], loopAt [], []⟩
theorem S.rin_k {R : Type} (n lo hi : Int) (k : AVal → List Blk → Option R) : fnEval tis F70 0 G57 Try.f70 [.int .i64 n, .int .i64 lo, .int .i64 hi] [] k =
  (bif decide (lo ≤ n) then
    k (.bool (decide (n ≤ hi))) ([])
  else
    k (.bool false) ([])) := by kernel_rfl
def S.rin (n lo hi : Int) : Bool :=
  bif decide (lo ≤ n) then
    (decide (n ≤ hi))
  else
    (false)
theorem S.rin_v {R : Type} (n lo hi : Int) (k : AVal → List Blk → Option R) : fnEval tis F70 0 G57 Try.f70 [.int .i64 n, .int .i64 lo, .int .i64 hi] [] k = k (.bool (S.rin n lo hi)) [] :=
  (S.rin_k n lo hi k).trans (bif_lift (f := (fun v : Bool => k (.bool v) [])) rfl rfl)
def H70 : Hnd := fun R args σ k => match args, σ with
  | [.int .i64 n, .int .i64 lo, .int .i64 hi], [] => k (.bool (S.rin n lo hi)) []
  | _, _ => none
theorem H70_ok : HndOk Try.prog 70 H70 := hnd_ok tis tisOk mixOk G57_ok F70 Try.func70 rfl (by
  intro R args σ k r h
  unfold H70 at h
  split at h
  · rename_i n lo hi; exact ⟨0, (S.rin_v n lo hi _).trans h⟩
  · cases h)
def G70 : Env := Env.add 70 H70 G57
theorem G70_ok : EnvOk Try.prog G70 := envAdd_ok H70_ok G57_ok

/-! spinnakerref1.Values -/
def F69 : FCfg := ⟨keepAt [(0, [1, 3, 4, 5, 6, 7, 8, 9, 10, 11, 12, 13, 14, 15, 16, 17, 18, 19, 20, 21, 22, 23, 24, 25, 26, 27, 28, 29, 30, 31, 32, 33, 34, 35, 36, 37, 38, 39, 40, 41, 42, 43]), (1, [2])], loopAt [], []⟩
theorem S.rvalues_k {R : Type} (c : Cf) (k : AVal → List Blk → Option R) : fnEval tis F69 0 G70 Try.f69 [.agg (cfA c)] [] k =
  (k (.slice 1 0 0 20 Option.none) ([.rows (Cd.int .i64) [Cf.target c, Cf.util c, Cf.stable c, Cf.panic c, Cf.grain c, Cf.threshold c, Cf.up c, Cf.down c, Cf.min c, Cf.max c, Cf.initial c, Cf.grace c, Cf.delay c, Cf.burst c, Cf.limit c, Cf.queue c, Cf.timeout c, Cf.ready c, Cf.subset c, Cf.sample c] false])) := by kernel_rfl
def S.rvalues (c : Cf) : List Int :=
  ([Cf.target c, Cf.util c, Cf.stable c, Cf.panic c, Cf.grain c, Cf.threshold c, Cf.up c, Cf.down c, Cf.min c, Cf.max c, Cf.initial c, Cf.grace c, Cf.delay c, Cf.burst c, Cf.limit c, Cf.queue c, Cf.timeout c, Cf.ready c, Cf.subset c, Cf.sample c])
theorem S.rvalues_v {R : Type} (c : Cf) (k : AVal → List Blk → Option R) : fnEval tis F69 0 G70 Try.f69 [.agg (cfA c)] [] k = k (.slice 1 0 0 20 Option.none) [(.rows (Cd.int .i64) (S.rvalues c) false)] :=
  (S.rvalues_k c k).trans rfl
def H69 : Hnd := fun R args σ k => match args, σ with
  | [.agg [.int .i64 target_, .int .i64 util_, .int .i64 stable_, .int .i64 panic_, .int .i64 grain_, .int .i64 threshold_, .int .i64 up_, .int .i64 down_, .int .i64 min_, .int .i64 max_, .int .i64 initial_, .int .i64 grace_, .int .i64 delay_, .int .i64 burst_, .int .i64 limit_, .int .i64 queue_, .int .i64 timeout_, .int .i64 ready_, .int .i64 subset_, .int .i64 sample_]], [] => k (.slice 1 0 0 20 Option.none) [(.rows (Cd.int .i64) (S.rvalues ⟨target_, util_, stable_, panic_, grain_, threshold_, up_, down_, min_, max_, initial_, grace_, delay_, burst_, limit_, queue_, timeout_, ready_, subset_, sample_⟩) false)]
  | _, _ => none
theorem H69_ok : HndOk Try.prog 69 H69 := hnd_ok tis tisOk mixOk G70_ok F69 Try.func69 rfl (by
  intro R args σ k r h
  unfold H69 at h
  split at h
  · rename_i target_ util_ stable_ panic_ grain_ threshold_ up_ down_ min_ max_ initial_ grace_ delay_ burst_ limit_ queue_ timeout_ ready_ subset_ sample_; exact ⟨0, (S.rvalues_v ⟨target_, util_, stable_, panic_, grain_, threshold_, up_, down_, min_, max_, initial_, grace_, delay_, burst_, limit_, queue_, timeout_, ready_, subset_, sample_⟩ _).trans h⟩
  · cases h)
def G69 : Env := Env.add 69 H69 G70
theorem G69_ok : EnvOk Try.prog G69 := envAdd_ok H69_ok G70_ok

/-! spinnakerref1.Names -/
def F71 : FCfg := ⟨keepAt [(0, [1]), (1, [0])], loopAt [], []⟩
theorem S.rnames_k {R : Type}  (k : AVal → List Blk → Option R) : fnEval tis F71 0 G69 Try.f71 [] [] k =
  (k (.slice 1 0 0 20 Option.none) ([.rows Cd.str [bs [116, 97, 114, 103, 101, 116], bs [117, 116, 105, 108], bs [115, 116, 97, 98, 108, 101], bs [112, 97, 110, 105, 99], bs [103, 114, 97, 105, 110], bs [116, 104, 114, 101, 115, 104, 111, 108, 100], bs [117, 112], bs [100, 111, 119, 110], bs [109, 105, 110], bs [109, 97, 120], bs [105, 110, 105, 116, 105, 97, 108], bs [103, 114, 97, 99, 101], bs [100, 101, 108, 97, 121], bs [98, 117, 114, 115, 116], bs [108, 105, 109, 105, 116], bs [113, 117, 101, 117, 101], bs [116, 105, 109, 101, 111, 117, 116], bs [114, 101, 97, 100, 121], bs [115, 117, 98, 115, 101, 116], bs [115, 97, 109, 112, 108, 101]] false])) := by kernel_rfl
def S.rnames  : List ByteArray :=
  ([bs [116, 97, 114, 103, 101, 116], bs [117, 116, 105, 108], bs [115, 116, 97, 98, 108, 101], bs [112, 97, 110, 105, 99], bs [103, 114, 97, 105, 110], bs [116, 104, 114, 101, 115, 104, 111, 108, 100], bs [117, 112], bs [100, 111, 119, 110], bs [109, 105, 110], bs [109, 97, 120], bs [105, 110, 105, 116, 105, 97, 108], bs [103, 114, 97, 99, 101], bs [100, 101, 108, 97, 121], bs [98, 117, 114, 115, 116], bs [108, 105, 109, 105, 116], bs [113, 117, 101, 117, 101], bs [116, 105, 109, 101, 111, 117, 116], bs [114, 101, 97, 100, 121], bs [115, 117, 98, 115, 101, 116], bs [115, 97, 109, 112, 108, 101]])
theorem S.rnames_v {R : Type}  (k : AVal → List Blk → Option R) : fnEval tis F71 0 G69 Try.f71 [] [] k = k (.slice 1 0 0 20 Option.none) [(.rows (Cd.str) (S.rnames) false)] :=
  (S.rnames_k k).trans rfl
def H71 : Hnd := fun R args σ k => match args, σ with
  | [], [] => k (.slice 1 0 0 20 Option.none) [(.rows (Cd.str) (S.rnames) false)]
  | _, _ => none
theorem H71_ok : HndOk Try.prog 71 H71 := hnd_ok tis tisOk mixOk G69_ok F71 Try.func71 rfl (by
  intro R args σ k r h
  unfold H71 at h
  split at h
  · exact ⟨0, (S.rnames_v _).trans h⟩
  · cases h)
def G71 : Env := Env.add 71 H71 G69
theorem G71_ok : EnvOk Try.prog G71 := envAdd_ok H71_ok G69_ok

/-! spinnakerref1.Wrong -/
def F67 : FCfg := ⟨keepAt [(0, [1, 7, 8, 9, 10, 12, 13, 14, 15, 16, 17, 18, 19, 20, 21, 22, 23, 24, 25, 26, 27, 28, 29, 30, 31, 32, 33, 34, 35, 36, 37, 38, 39, 40, 41, 42, 43, 44, 45, 46, 47, 48, 49, 50, 51, 52, 53, 54, 55, 56, 57, 58, 59, 60, 61, 62, 63, 64, 65, 66, 67, 68, 69, 70, 71, 72, 73, 74, 75, 76, 77, 78, 79, 80, 81, 82, 83, 84, 85, 86, 87, 88, 89, 90, 91, 92, 93, 94, 95, 96, 97, 98, 99, 100, 101, 102, 103, 104, 105, 106, 107, 108, 109, 110, 111, 112, 113, 114, 115, 116, 117, 118, 119, 120, 122, 123, 124, 125, 126, 127, 129, 130, 131, 132]), (1, [1, 3, 9, 10, 12, 13, 14, 15, 16, 17, 18, 19, 20, 21, 22, 23, 24, 25, 26, 27, 28, 29, 30, 31, 32, 33, 34, 35, 36, 37, 38, 39, 40, 41, 42, 43, 44, 45, 46, 47, 48, 49, 50, 51, 52, 53, 54, 55, 56, 57, 58, 59, 60, 61, 62, 63, 64, 65, 66, 67, 68, 69, 70, 71, 72, 73, 74, 75, 76, 77, 78, 79, 80, 81, 82, 83, 84, 85, 86, 87, 88, 89, 90, 91, 92, 93, 94, 95, 96, 97, 98, 99, 100, 101, 102, 103, 104, 105, 106, 107, 108, 109, 110, 111, 112, 113, 114, 115, 116, 117, 118, 119, 120, 122, 123, 124, 125, 126, 127, 129, 130, 131, 132]), (2, [1, 3, 4, 9, 10, 12, 13, 14, 15, 16, 17, 18, 19, 20, 21, 22, 23, 24, 25, 26, 27, 28, 29, 30, 31, 32, 33, 34, 35, 36, 37, 38, 39, 40, 41, 42, 43, 44, 45, 46, 47, 48, 49, 50, 51, 52, 53, 54, 55, 56, 57, 58, 59, 60, 61, 62, 63, 64, 65, 66, 67, 68, 69, 70, 71, 72, 73, 74, 75, 76, 77, 78, 79, 80, 81, 82, 83, 84, 85, 86, 87, 88, 89, 90, 91, 92, 93, 94, 95, 96, 97, 98, 99, 100, 101, 102, 103, 104, 105, 106, 107, 108, 109, 110, 111, 112, 113, 114, 115, 116, 117, 118, 119, 120, 122, 123, 124, 125, 126, 127, 129, 130, 131, 132]), (3, [1, 3, 4, 11, 12, 13, 14, 15, 16, 17, 18, 19, 20, 21, 22, 23, 24, 25, 26, 27, 28, 29, 30, 31, 32, 33, 34, 35, 36, 37, 38, 39, 40, 41, 42, 43, 44, 45, 46, 47, 48, 49, 50, 51, 52, 53, 54, 55, 56, 57, 58, 59, 60, 61, 62, 63, 64, 65, 66, 67, 68, 69, 70, 71, 72, 73, 74, 75, 76, 77, 78, 79, 80, 81, 82, 83, 84, 85, 86, 87, 88, 89, 90, 91, 92, 93, 94, 95, 96, 97, 98, 99, 100, 101, 102, 103, 104, 105, 106, 107, 108, 109, 110, 111, 112, 113, 114, 115, 116, 117, 118, 119, 120, 122, 123, 124, 125, 126, 127, 129, 130, 131, 132]), (4, [3, 4, 14, 15, 16, 17, 18, 19, 20, 21, 22, 23, 24, 25, 26, 27, 28, 29, 30, 31, 32, 33, 34, 35, 36, 37, 38, 39, 40, 41, 42, 43, 44, 45, 46, 47, 48, 49, 50, 51, 52, 53, 54, 55, 56, 57, 58, 59, 60, 61, 62, 63, 64, 65, 66, 67, 68, 69, 70, 71, 72, 73, 74, 75, 76, 77, 78, 79, 80, 81, 82, 83, 84, 85, 86, 87, 88, 89, 90, 91, 92, 93, 94, 95, 96, 97, 98, 99, 100, 101, 102, 103, 104, 105, 106, 107, 108, 109, 110, 111, 112, 113, 114, 115, 116, 117, 118, 119, 120, 122, 123, 124, 125, 126, 127, 129, 130, 131, 132]), (5, [5, 118, 119, 120, 122, 123, 124, 125, 126, 127, 129, 130, 131, 132]), (6, [5, 6, 118, 119, 120, 122, 123, 124, 125, 126, 127, 129, 130, 131, 132]), (7, [5, 6, 118, 119, 120, 121, 122, 123, 124, 125, 126, 127, 129, 130, 131, 132]), (8, [5, 6, 118, 119, 120, 122, 123, 124, 125, 126, 127, 129, 130, 131, 132]), (9, [5, 6, 118, 119, 120, 122, 123, 124, 125, 126, 127, 128, 129, 130, 131, 132]), (10, [2]), (11, [2])], loopAt [(7, [5, 6, 118, 119, 120, 122, 123, 124, 125, 126, 127, 129, 130, 131, 132], [])], []⟩
theorem S.rwrong_k {R : Type} (c : Cf) (k : AVal → List Blk → Option R) : fnEval tis F67 40 G71 Try.f67 [.agg (cfA c)] [] k =
  (bif decide (0 < Cf.max c) then
    bif decide (Cf.max c = 0) then
      bif decide (Cf.burst c = -1000) then
        bif !S.rin (Cf.target c) 10 1000000 then
          k (.str (bs [116, 97, 114, 103, 101, 116])) ([])
        else
          bif !S.rin (Cf.util c) 100 1000 then
            k (.str (bs [117, 116, 105, 108])) ([])
          else
            bif !S.rin (Cf.stable c) 6 600 then
              k (.str (bs [115, 116, 97, 98, 108, 101])) ([])
            else
              bif !S.rin (Cf.panic c) 1 (Cf.stable c) then
                k (.str (bs [112, 97, 110, 105, 99])) ([])
              else
                bif !S.rin (Cf.grain c) 1 (Cf.panic c) then
                  k (.str (bs [103, 114, 97, 105, 110])) ([])
                else
                  bif !S.rin (Cf.threshold c) 1100 10000 then
                    k (.str (bs [116, 104, 114, 101, 115, 104, 111, 108, 100])) ([])
                  else
                    bif !S.rin (Cf.up c) 1001 1000000 then
                      k (.str (bs [117, 112])) ([])
                    else
                      bif !S.rin (Cf.down c) 1001 1000000 then
                        k (.str (bs [100, 111, 119, 110])) ([])
                      else
                        bif !S.rin (Cf.min c) 0 100 then
                          k (.str (bs [109, 105, 110])) ([])
                        else
                          bif !S.rin (Cf.initial c) 0 (Cf.max c) then
                            k (.str (bs [105, 110, 105, 116, 105, 97, 108])) ([])
                          else
                            bif !S.rin (Cf.grace c) 0 600 then
                              k (.str (bs [103, 114, 97, 99, 101])) ([])
                            else
                              bif !S.rin (Cf.delay c) 0 600 then
                                k (.str (bs [100, 101, 108, 97, 121])) ([])
                              else
                                bif !S.rin (Cf.limit c) 1 1000 then
                                  k (.str (bs [108, 105, 109, 105, 116])) ([])
                                else
                                  bif !S.rin (Cf.queue c) 0 200 then
                                    k (.str (bs [113, 117, 101, 117, 101])) ([])
                                  else
                                    bif !S.rin (Cf.timeout c) 1 10000 then
                                      k (.str (bs [116, 105, 109, 101, 111, 117, 116])) ([])
                                    else
                                      bif !S.rin (Cf.ready c) 0 100 then
                                        k (.str (bs [114, 101, 97, 100, 121])) ([])
                                      else
                                        bif !S.rin (Cf.subset c) 0 100 then
                                          k (.str (bs [115, 117, 98, 115, 101, 116])) ([])
                                        else
                                          bif !S.rin (Cf.sample c) 0 100 then
                                            k (.str (bs [115, 97, 109, 112, 108, 101])) ([])
                                          else
                                            k (.str (bs [])) ([])
      else
        bif !S.rin (Cf.target c) 10 1000000 then
          k (.str (bs [116, 97, 114, 103, 101, 116])) ([])
        else
          bif !S.rin (Cf.util c) 100 1000 then
            k (.str (bs [117, 116, 105, 108])) ([])
          else
            bif !S.rin (Cf.stable c) 6 600 then
              k (.str (bs [115, 116, 97, 98, 108, 101])) ([])
            else
              bif !S.rin (Cf.panic c) 1 (Cf.stable c) then
                k (.str (bs [112, 97, 110, 105, 99])) ([])
              else
                bif !S.rin (Cf.grain c) 1 (Cf.panic c) then
                  k (.str (bs [103, 114, 97, 105, 110])) ([])
                else
                  bif !S.rin (Cf.threshold c) 1100 10000 then
                    k (.str (bs [116, 104, 114, 101, 115, 104, 111, 108, 100])) ([])
                  else
                    bif !S.rin (Cf.up c) 1001 1000000 then
                      k (.str (bs [117, 112])) ([])
                    else
                      bif !S.rin (Cf.down c) 1001 1000000 then
                        k (.str (bs [100, 111, 119, 110])) ([])
                      else
                        bif !S.rin (Cf.min c) 0 100 then
                          k (.str (bs [109, 105, 110])) ([])
                        else
                          bif !S.rin (Cf.initial c) 0 (Cf.max c) then
                            k (.str (bs [105, 110, 105, 116, 105, 97, 108])) ([])
                          else
                            bif !S.rin (Cf.grace c) 0 600 then
                              k (.str (bs [103, 114, 97, 99, 101])) ([])
                            else
                              bif !S.rin (Cf.delay c) 0 600 then
                                k (.str (bs [100, 101, 108, 97, 121])) ([])
                              else
                                bif !S.rin (Cf.burst c) 0 100000000 then
                                  k (.str (bs [98, 117, 114, 115, 116])) ([])
                                else
                                  bif !S.rin (Cf.limit c) 1 1000 then
                                    k (.str (bs [108, 105, 109, 105, 116])) ([])
                                  else
                                    bif !S.rin (Cf.queue c) 0 200 then
                                      k (.str (bs [113, 117, 101, 117, 101])) ([])
                                    else
                                      bif !S.rin (Cf.timeout c) 1 10000 then
                                        k (.str (bs [116, 105, 109, 101, 111, 117, 116])) ([])
                                      else
                                        bif !S.rin (Cf.ready c) 0 100 then
                                          k (.str (bs [114, 101, 97, 100, 121])) ([])
                                        else
                                          bif !S.rin (Cf.subset c) 0 100 then
                                            k (.str (bs [115, 117, 98, 115, 101, 116])) ([])
                                          else
                                            bif !S.rin (Cf.sample c) 0 100 then
                                              k (.str (bs [115, 97, 109, 112, 108, 101])) ([])
                                            else
                                              k (.str (bs [])) ([])
    else
      bif decide (Cf.burst c = -1000) then
        bif !S.rin (Cf.target c) 10 1000000 then
          k (.str (bs [116, 97, 114, 103, 101, 116])) ([])
        else
          bif !S.rin (Cf.util c) 100 1000 then
            k (.str (bs [117, 116, 105, 108])) ([])
          else
            bif !S.rin (Cf.stable c) 6 600 then
              k (.str (bs [115, 116, 97, 98, 108, 101])) ([])
            else
              bif !S.rin (Cf.panic c) 1 (Cf.stable c) then
                k (.str (bs [112, 97, 110, 105, 99])) ([])
              else
                bif !S.rin (Cf.grain c) 1 (Cf.panic c) then
                  k (.str (bs [103, 114, 97, 105, 110])) ([])
                else
                  bif !S.rin (Cf.threshold c) 1100 10000 then
                    k (.str (bs [116, 104, 114, 101, 115, 104, 111, 108, 100])) ([])
                  else
                    bif !S.rin (Cf.up c) 1001 1000000 then
                      k (.str (bs [117, 112])) ([])
                    else
                      bif !S.rin (Cf.down c) 1001 1000000 then
                        k (.str (bs [100, 111, 119, 110])) ([])
                      else
                        bif !S.rin (Cf.min c) 0 100 then
                          k (.str (bs [109, 105, 110])) ([])
                        else
                          bif !S.rin (Cf.max c) (if 1 > Cf.min c then 1 else Cf.min c) 100 then
                            k (.str (bs [109, 97, 120])) ([])
                          else
                            bif !S.rin (Cf.initial c) 0 (Cf.max c) then
                              k (.str (bs [105, 110, 105, 116, 105, 97, 108])) ([])
                            else
                              bif !S.rin (Cf.grace c) 0 600 then
                                k (.str (bs [103, 114, 97, 99, 101])) ([])
                              else
                                bif !S.rin (Cf.delay c) 0 600 then
                                  k (.str (bs [100, 101, 108, 97, 121])) ([])
                                else
                                  bif !S.rin (Cf.limit c) 1 1000 then
                                    k (.str (bs [108, 105, 109, 105, 116])) ([])
                                  else
                                    bif !S.rin (Cf.queue c) 0 200 then
                                      k (.str (bs [113, 117, 101, 117, 101])) ([])
                                    else
                                      bif !S.rin (Cf.timeout c) 1 10000 then
                                        k (.str (bs [116, 105, 109, 101, 111, 117, 116])) ([])
                                      else
                                        bif !S.rin (Cf.ready c) 0 100 then
                                          k (.str (bs [114, 101, 97, 100, 121])) ([])
                                        else
                                          bif !S.rin (Cf.subset c) 0 100 then
                                            k (.str (bs [115, 117, 98, 115, 101, 116])) ([])
                                          else
                                            bif !S.rin (Cf.sample c) 0 100 then
                                              k (.str (bs [115, 97, 109, 112, 108, 101])) ([])
                                            else
                                              k (.str (bs [])) ([])
      else
        bif !S.rin (Cf.target c) 10 1000000 then
          k (.str (bs [116, 97, 114, 103, 101, 116])) ([])
        else
          bif !S.rin (Cf.util c) 100 1000 then
            k (.str (bs [117, 116, 105, 108])) ([])
          else
            bif !S.rin (Cf.stable c) 6 600 then
              k (.str (bs [115, 116, 97, 98, 108, 101])) ([])
            else
              bif !S.rin (Cf.panic c) 1 (Cf.stable c) then
                k (.str (bs [112, 97, 110, 105, 99])) ([])
              else
                bif !S.rin (Cf.grain c) 1 (Cf.panic c) then
                  k (.str (bs [103, 114, 97, 105, 110])) ([])
                else
                  bif !S.rin (Cf.threshold c) 1100 10000 then
                    k (.str (bs [116, 104, 114, 101, 115, 104, 111, 108, 100])) ([])
                  else
                    bif !S.rin (Cf.up c) 1001 1000000 then
                      k (.str (bs [117, 112])) ([])
                    else
                      bif !S.rin (Cf.down c) 1001 1000000 then
                        k (.str (bs [100, 111, 119, 110])) ([])
                      else
                        bif !S.rin (Cf.min c) 0 100 then
                          k (.str (bs [109, 105, 110])) ([])
                        else
                          bif !S.rin (Cf.max c) (if 1 > Cf.min c then 1 else Cf.min c) 100 then
                            k (.str (bs [109, 97, 120])) ([])
                          else
                            bif !S.rin (Cf.initial c) 0 (Cf.max c) then
                              k (.str (bs [105, 110, 105, 116, 105, 97, 108])) ([])
                            else
                              bif !S.rin (Cf.grace c) 0 600 then
                                k (.str (bs [103, 114, 97, 99, 101])) ([])
                              else
                                bif !S.rin (Cf.delay c) 0 600 then
                                  k (.str (bs [100, 101, 108, 97, 121])) ([])
                                else
                                  bif !S.rin (Cf.burst c) 0 100000000 then
                                    k (.str (bs [98, 117, 114, 115, 116])) ([])
                                  else
                                    bif !S.rin (Cf.limit c) 1 1000 then
                                      k (.str (bs [108, 105, 109, 105, 116])) ([])
                                    else
                                      bif !S.rin (Cf.queue c) 0 200 then
                                        k (.str (bs [113, 117, 101, 117, 101])) ([])
                                      else
                                        bif !S.rin (Cf.timeout c) 1 10000 then
                                          k (.str (bs [116, 105, 109, 101, 111, 117, 116])) ([])
                                        else
                                          bif !S.rin (Cf.ready c) 0 100 then
                                            k (.str (bs [114, 101, 97, 100, 121])) ([])
                                          else
                                            bif !S.rin (Cf.subset c) 0 100 then
                                              k (.str (bs [115, 117, 98, 115, 101, 116])) ([])
                                            else
                                              bif !S.rin (Cf.sample c) 0 100 then
                                                k (.str (bs [115, 97, 109, 112, 108, 101])) ([])
                                              else
                                                k (.str (bs [])) ([])
  else
    bif decide (Cf.max c = 0) then
      bif decide (Cf.burst c = -1000) then
        bif !S.rin (Cf.target c) 10 1000000 then
          k (.str (bs [116, 97, 114, 103, 101, 116])) ([])
        else
          bif !S.rin (Cf.util c) 100 1000 then
            k (.str (bs [117, 116, 105, 108])) ([])
          else
            bif !S.rin (Cf.stable c) 6 600 then
              k (.str (bs [115, 116, 97, 98, 108, 101])) ([])
            else
              bif !S.rin (Cf.panic c) 1 (Cf.stable c) then
                k (.str (bs [112, 97, 110, 105, 99])) ([])
              else
                bif !S.rin (Cf.grain c) 1 (Cf.panic c) then
                  k (.str (bs [103, 114, 97, 105, 110])) ([])
                else
                  bif !S.rin (Cf.threshold c) 1100 10000 then
                    k (.str (bs [116, 104, 114, 101, 115, 104, 111, 108, 100])) ([])
                  else
                    bif !S.rin (Cf.up c) 1001 1000000 then
                      k (.str (bs [117, 112])) ([])
                    else
                      bif !S.rin (Cf.down c) 1001 1000000 then
                        k (.str (bs [100, 111, 119, 110])) ([])
                      else
                        bif !S.rin (Cf.min c) 0 100 then
                          k (.str (bs [109, 105, 110])) ([])
                        else
                          bif !S.rin (Cf.initial c) 0 100 then
                            k (.str (bs [105, 110, 105, 116, 105, 97, 108])) ([])
                          else
                            bif !S.rin (Cf.grace c) 0 600 then
                              k (.str (bs [103, 114, 97, 99, 101])) ([])
                            else
                              bif !S.rin (Cf.delay c) 0 600 then
                                k (.str (bs [100, 101, 108, 97, 121])) ([])
                              else
                                bif !S.rin (Cf.limit c) 1 1000 then
                                  k (.str (bs [108, 105, 109, 105, 116])) ([])
                                else
                                  bif !S.rin (Cf.queue c) 0 200 then
                                    k (.str (bs [113, 117, 101, 117, 101])) ([])
                                  else
                                    bif !S.rin (Cf.timeout c) 1 10000 then
                                      k (.str (bs [116, 105, 109, 101, 111, 117, 116])) ([])
                                    else
                                      bif !S.rin (Cf.ready c) 0 100 then
                                        k (.str (bs [114, 101, 97, 100, 121])) ([])
                                      else
                                        bif !S.rin (Cf.subset c) 0 100 then
                                          k (.str (bs [115, 117, 98, 115, 101, 116])) ([])
                                        else
                                          bif !S.rin (Cf.sample c) 0 100 then
                                            k (.str (bs [115, 97, 109, 112, 108, 101])) ([])
                                          else
                                            k (.str (bs [])) ([])
      else
        bif !S.rin (Cf.target c) 10 1000000 then
          k (.str (bs [116, 97, 114, 103, 101, 116])) ([])
        else
          bif !S.rin (Cf.util c) 100 1000 then
            k (.str (bs [117, 116, 105, 108])) ([])
          else
            bif !S.rin (Cf.stable c) 6 600 then
              k (.str (bs [115, 116, 97, 98, 108, 101])) ([])
            else
              bif !S.rin (Cf.panic c) 1 (Cf.stable c) then
                k (.str (bs [112, 97, 110, 105, 99])) ([])
              else
                bif !S.rin (Cf.grain c) 1 (Cf.panic c) then
                  k (.str (bs [103, 114, 97, 105, 110])) ([])
                else
                  bif !S.rin (Cf.threshold c) 1100 10000 then
                    k (.str (bs [116, 104, 114, 101, 115, 104, 111, 108, 100])) ([])
                  else
                    bif !S.rin (Cf.up c) 1001 1000000 then
                      k (.str (bs [117, 112])) ([])
                    else
                      bif !S.rin (Cf.down c) 1001 1000000 then
                        k (.str (bs [100, 111, 119, 110])) ([])
                      else
                        bif !S.rin (Cf.min c) 0 100 then
                          k (.str (bs [109, 105, 110])) ([])
                        else
                          bif !S.rin (Cf.initial c) 0 100 then
                            k (.str (bs [105, 110, 105, 116, 105, 97, 108])) ([])
                          else
                            bif !S.rin (Cf.grace c) 0 600 then
                              k (.str (bs [103, 114, 97, 99, 101])) ([])
                            else
                              bif !S.rin (Cf.delay c) 0 600 then
                                k (.str (bs [100, 101, 108, 97, 121])) ([])
                              else
                                bif !S.rin (Cf.burst c) 0 100000000 then
                                  k (.str (bs [98, 117, 114, 115, 116])) ([])
                                else
                                  bif !S.rin (Cf.limit c) 1 1000 then
                                    k (.str (bs [108, 105, 109, 105, 116])) ([])
                                  else
                                    bif !S.rin (Cf.queue c) 0 200 then
                                      k (.str (bs [113, 117, 101, 117, 101])) ([])
                                    else
                                      bif !S.rin (Cf.timeout c) 1 10000 then
                                        k (.str (bs [116, 105, 109, 101, 111, 117, 116])) ([])
                                      else
                                        bif !S.rin (Cf.ready c) 0 100 then
                                          k (.str (bs [114, 101, 97, 100, 121])) ([])
                                        else
                                          bif !S.rin (Cf.subset c) 0 100 then
                                            k (.str (bs [115, 117, 98, 115, 101, 116])) ([])
                                          else
                                            bif !S.rin (Cf.sample c) 0 100 then
                                              k (.str (bs [115, 97, 109, 112, 108, 101])) ([])
                                            else
                                              k (.str (bs [])) ([])
    else
      bif decide (Cf.burst c = -1000) then
        bif !S.rin (Cf.target c) 10 1000000 then
          k (.str (bs [116, 97, 114, 103, 101, 116])) ([])
        else
          bif !S.rin (Cf.util c) 100 1000 then
            k (.str (bs [117, 116, 105, 108])) ([])
          else
            bif !S.rin (Cf.stable c) 6 600 then
              k (.str (bs [115, 116, 97, 98, 108, 101])) ([])
            else
              bif !S.rin (Cf.panic c) 1 (Cf.stable c) then
                k (.str (bs [112, 97, 110, 105, 99])) ([])
              else
                bif !S.rin (Cf.grain c) 1 (Cf.panic c) then
                  k (.str (bs [103, 114, 97, 105, 110])) ([])
                else
                  bif !S.rin (Cf.threshold c) 1100 10000 then
                    k (.str (bs [116, 104, 114, 101, 115, 104, 111, 108, 100])) ([])
                  else
                    bif !S.rin (Cf.up c) 1001 1000000 then
                      k (.str (bs [117, 112])) ([])
                    else
                      bif !S.rin (Cf.down c) 1001 1000000 then
                        k (.str (bs [100, 111, 119, 110])) ([])
                      else
                        bif !S.rin (Cf.min c) 0 100 then
                          k (.str (bs [109, 105, 110])) ([])
                        else
                          bif !S.rin (Cf.max c) (if 1 > Cf.min c then 1 else Cf.min c) 100 then
                            k (.str (bs [109, 97, 120])) ([])
                          else
                            bif !S.rin (Cf.initial c) 0 100 then
                              k (.str (bs [105, 110, 105, 116, 105, 97, 108])) ([])
                            else
                              bif !S.rin (Cf.grace c) 0 600 then
                                k (.str (bs [103, 114, 97, 99, 101])) ([])
                              else
                                bif !S.rin (Cf.delay c) 0 600 then
                                  k (.str (bs [100, 101, 108, 97, 121])) ([])
                                else
                                  bif !S.rin (Cf.limit c) 1 1000 then
                                    k (.str (bs [108, 105, 109, 105, 116])) ([])
                                  else
                                    bif !S.rin (Cf.queue c) 0 200 then
                                      k (.str (bs [113, 117, 101, 117, 101])) ([])
                                    else
                                      bif !S.rin (Cf.timeout c) 1 10000 then
                                        k (.str (bs [116, 105, 109, 101, 111, 117, 116])) ([])
                                      else
                                        bif !S.rin (Cf.ready c) 0 100 then
                                          k (.str (bs [114, 101, 97, 100, 121])) ([])
                                        else
                                          bif !S.rin (Cf.subset c) 0 100 then
                                            k (.str (bs [115, 117, 98, 115, 101, 116])) ([])
                                          else
                                            bif !S.rin (Cf.sample c) 0 100 then
                                              k (.str (bs [115, 97, 109, 112, 108, 101])) ([])
                                            else
                                              k (.str (bs [])) ([])
      else
        bif !S.rin (Cf.target c) 10 1000000 then
          k (.str (bs [116, 97, 114, 103, 101, 116])) ([])
        else
          bif !S.rin (Cf.util c) 100 1000 then
            k (.str (bs [117, 116, 105, 108])) ([])
          else
            bif !S.rin (Cf.stable c) 6 600 then
              k (.str (bs [115, 116, 97, 98, 108, 101])) ([])
            else
              bif !S.rin (Cf.panic c) 1 (Cf.stable c) then
                k (.str (bs [112, 97, 110, 105, 99])) ([])
              else
                bif !S.rin (Cf.grain c) 1 (Cf.panic c) then
                  k (.str (bs [103, 114, 97, 105, 110])) ([])
                else
                  bif !S.rin (Cf.threshold c) 1100 10000 then
                    k (.str (bs [116, 104, 114, 101, 115, 104, 111, 108, 100])) ([])
                  else
                    bif !S.rin (Cf.up c) 1001 1000000 then
                      k (.str (bs [117, 112])) ([])
                    else
                      bif !S.rin (Cf.down c) 1001 1000000 then
                        k (.str (bs [100, 111, 119, 110])) ([])
                      else
                        bif !S.rin (Cf.min c) 0 100 then
                          k (.str (bs [109, 105, 110])) ([])
                        else
                          bif !S.rin (Cf.max c) (if 1 > Cf.min c then 1 else Cf.min c) 100 then
                            k (.str (bs [109, 97, 120])) ([])
                          else
                            bif !S.rin (Cf.initial c) 0 100 then
                              k (.str (bs [105, 110, 105, 116, 105, 97, 108])) ([])
                            else
                              bif !S.rin (Cf.grace c) 0 600 then
                                k (.str (bs [103, 114, 97, 99, 101])) ([])
                              else
                                bif !S.rin (Cf.delay c) 0 600 then
                                  k (.str (bs [100, 101, 108, 97, 121])) ([])
                                else
                                  bif !S.rin (Cf.burst c) 0 100000000 then
                                    k (.str (bs [98, 117, 114, 115, 116])) ([])
                                  else
                                    bif !S.rin (Cf.limit c) 1 1000 then
                                      k (.str (bs [108, 105, 109, 105, 116])) ([])
                                    else
                                      bif !S.rin (Cf.queue c) 0 200 then
                                        k (.str (bs [113, 117, 101, 117, 101])) ([])
                                      else
                                        bif !S.rin (Cf.timeout c) 1 10000 then
                                          k (.str (bs [116, 105, 109, 101, 111, 117, 116])) ([])
                                        else
                                          bif !S.rin (Cf.ready c) 0 100 then
                                            k (.str (bs [114, 101, 97, 100, 121])) ([])
                                          else
                                            bif !S.rin (Cf.subset c) 0 100 then
                                              k (.str (bs [115, 117, 98, 115, 101, 116])) ([])
                                            else
                                              bif !S.rin (Cf.sample c) 0 100 then
                                                k (.str (bs [115, 97, 109, 112, 108, 101])) ([])
                                              else
                                                k (.str (bs [])) ([])) := by kernel_rfl
def S.rwrong (c : Cf) : ByteArray :=
  bif decide (0 < Cf.max c) then
    bif decide (Cf.max c = 0) then
      bif decide (Cf.burst c = -1000) then
        bif !S.rin (Cf.target c) 10 1000000 then
          (bs [116, 97, 114, 103, 101, 116])
        else
          bif !S.rin (Cf.util c) 100 1000 then
            (bs [117, 116, 105, 108])
          else
            bif !S.rin (Cf.stable c) 6 600 then
              (bs [115, 116, 97, 98, 108, 101])
            else
              bif !S.rin (Cf.panic c) 1 (Cf.stable c) then
                (bs [112, 97, 110, 105, 99])
              else
                bif !S.rin (Cf.grain c) 1 (Cf.panic c) then
                  (bs [103, 114, 97, 105, 110])
                else
                  bif !S.rin (Cf.threshold c) 1100 10000 then
                    (bs [116, 104, 114, 101, 115, 104, 111, 108, 100])
                  else
                    bif !S.rin (Cf.up c) 1001 1000000 then
                      (bs [117, 112])
                    else
                      bif !S.rin (Cf.down c) 1001 1000000 then
                        (bs [100, 111, 119, 110])
                      else
                        bif !S.rin (Cf.min c) 0 100 then
                          (bs [109, 105, 110])
                        else
                          bif !S.rin (Cf.initial c) 0 (Cf.max c) then
                            (bs [105, 110, 105, 116, 105, 97, 108])
                          else
                            bif !S.rin (Cf.grace c) 0 600 then
                              (bs [103, 114, 97, 99, 101])
                            else
                              bif !S.rin (Cf.delay c) 0 600 then
                                (bs [100, 101, 108, 97, 121])
                              else
                                bif !S.rin (Cf.limit c) 1 1000 then
                                  (bs [108, 105, 109, 105, 116])
                                else
                                  bif !S.rin (Cf.queue c) 0 200 then
                                    (bs [113, 117, 101, 117, 101])
                                  else
                                    bif !S.rin (Cf.timeout c) 1 10000 then
                                      (bs [116, 105, 109, 101, 111, 117, 116])
                                    else
                                      bif !S.rin (Cf.ready c) 0 100 then
                                        (bs [114, 101, 97, 100, 121])
                                      else
                                        bif !S.rin (Cf.subset c) 0 100 then
                                          (bs [115, 117, 98, 115, 101, 116])
                                        else
                                          bif !S.rin (Cf.sample c) 0 100 then
                                            (bs [115, 97, 109, 112, 108, 101])
                                          else
                                            (bs [])
      else
        bif !S.rin (Cf.target c) 10 1000000 then
          (bs [116, 97, 114, 103, 101, 116])
        else
          bif !S.rin (Cf.util c) 100 1000 then
            (bs [117, 116, 105, 108])
          else
            bif !S.rin (Cf.stable c) 6 600 then
              (bs [115, 116, 97, 98, 108, 101])
            else
              bif !S.rin (Cf.panic c) 1 (Cf.stable c) then
                (bs [112, 97, 110, 105, 99])
              else
                bif !S.rin (Cf.grain c) 1 (Cf.panic c) then
                  (bs [103, 114, 97, 105, 110])
                else
                  bif !S.rin (Cf.threshold c) 1100 10000 then
                    (bs [116, 104, 114, 101, 115, 104, 111, 108, 100])
                  else
                    bif !S.rin (Cf.up c) 1001 1000000 then
                      (bs [117, 112])
                    else
                      bif !S.rin (Cf.down c) 1001 1000000 then
                        (bs [100, 111, 119, 110])
                      else
                        bif !S.rin (Cf.min c) 0 100 then
                          (bs [109, 105, 110])
                        else
                          bif !S.rin (Cf.initial c) 0 (Cf.max c) then
                            (bs [105, 110, 105, 116, 105, 97, 108])
                          else
                            bif !S.rin (Cf.grace c) 0 600 then
                              (bs [103, 114, 97, 99, 101])
                            else
                              bif !S.rin (Cf.delay c) 0 600 then
                                (bs [100, 101, 108, 97, 121])
                              else
                                bif !S.rin (Cf.burst c) 0 100000000 then
                                  (bs [98, 117, 114, 115, 116])
                                else
                                  bif !S.rin (Cf.limit c) 1 1000 then
                                    (bs [108, 105, 109, 105, 116])
                                  else
                                    bif !S.rin (Cf.queue c) 0 200 then
                                      (bs [113, 117, 101, 117, 101])
                                    else
                                      bif !S.rin (Cf.timeout c) 1 10000 then
                                        (bs [116, 105, 109, 101, 111, 117, 116])
                                      else
                                        bif !S.rin (Cf.ready c) 0 100 then
                                          (bs [114, 101, 97, 100, 121])
                                        else
                                          bif !S.rin (Cf.subset c) 0 100 then
                                            (bs [115, 117, 98, 115, 101, 116])
                                          else
                                            bif !S.rin (Cf.sample c) 0 100 then
                                              (bs [115, 97, 109, 112, 108, 101])
                                            else
                                              (bs [])
    else
      bif decide (Cf.burst c = -1000) then
        bif !S.rin (Cf.target c) 10 1000000 then
          (bs [116, 97, 114, 103, 101, 116])
        else
          bif !S.rin (Cf.util c) 100 1000 then
            (bs [117, 116, 105, 108])
          else
            bif !S.rin (Cf.stable c) 6 600 then
              (bs [115, 116, 97, 98, 108, 101])
            else
              bif !S.rin (Cf.panic c) 1 (Cf.stable c) then
                (bs [112, 97, 110, 105, 99])
              else
                bif !S.rin (Cf.grain c) 1 (Cf.panic c) then
                  (bs [103, 114, 97, 105, 110])
                else
                  bif !S.rin (Cf.threshold c) 1100 10000 then
                    (bs [116, 104, 114, 101, 115, 104, 111, 108, 100])
                  else
                    bif !S.rin (Cf.up c) 1001 1000000 then
                      (bs [117, 112])
                    else
                      bif !S.rin (Cf.down c) 1001 1000000 then
                        (bs [100, 111, 119, 110])
                      else
                        bif !S.rin (Cf.min c) 0 100 then
                          (bs [109, 105, 110])
                        else
                          bif !S.rin (Cf.max c) (if 1 > Cf.min c then 1 else Cf.min c) 100 then
                            (bs [109, 97, 120])
                          else
                            bif !S.rin (Cf.initial c) 0 (Cf.max c) then
                              (bs [105, 110, 105, 116, 105, 97, 108])
                            else
                              bif !S.rin (Cf.grace c) 0 600 then
                                (bs [103, 114, 97, 99, 101])
                              else
                                bif !S.rin (Cf.delay c) 0 600 then
                                  (bs [100, 101, 108, 97, 121])
                                else
                                  bif !S.rin (Cf.limit c) 1 1000 then
                                    (bs [108, 105, 109, 105, 116])
                                  else
                                    bif !S.rin (Cf.queue c) 0 200 then
                                      (bs [113, 117, 101, 117, 101])
                                    else
                                      bif !S.rin (Cf.timeout c) 1 10000 then
                                        (bs [116, 105, 109, 101, 111, 117, 116])
                                      else
                                        bif !S.rin (Cf.ready c) 0 100 then
                                          (bs [114, 101, 97, 100, 121])
                                        else
                                          bif !S.rin (Cf.subset c) 0 100 then
                                            (bs [115, 117, 98, 115, 101, 116])
                                          else
                                            bif !S.rin (Cf.sample c) 0 100 then
                                              (bs [115, 97, 109, 112, 108, 101])
                                            else
                                              (bs [])
      else
        bif !S.rin (Cf.target c) 10 1000000 then
          (bs [116, 97, 114, 103, 101, 116])
        else
          bif !S.rin (Cf.util c) 100 1000 then
            (bs [117, 116, 105, 108])
          else
            bif !S.rin (Cf.stable c) 6 600 then
              (bs [115, 116, 97, 98, 108, 101])
            else
              bif !S.rin (Cf.panic c) 1 (Cf.stable c) then
                (bs [112, 97, 110, 105, 99])
              else
                bif !S.rin (Cf.grain c) 1 (Cf.panic c) then
                  (bs [103, 114, 97, 105, 110])
                else
                  bif !S.rin (Cf.threshold c) 1100 10000 then
                    (bs [116, 104, 114, 101, 115, 104, 111, 108, 100])
                  else
                    bif !S.rin (Cf.up c) 1001 1000000 then
                      (bs [117, 112])
                    else
                      bif !S.rin (Cf.down c) 1001 1000000 then
                        (bs [100, 111, 119, 110])
                      else
                        bif !S.rin (Cf.min c) 0 100 then
                          (bs [109, 105, 110])
                        else
                          bif !S.rin (Cf.max c) (if 1 > Cf.min c then 1 else Cf.min c) 100 then
                            (bs [109, 97, 120])
                          else
                            bif !S.rin (Cf.initial c) 0 (Cf.max c) then
                              (bs [105, 110, 105, 116, 105, 97, 108])
                            else
                              bif !S.rin (Cf.grace c) 0 600 then
                                (bs [103, 114, 97, 99, 101])
                              else
                                bif !S.rin (Cf.delay c) 0 600 then
                                  (bs [100, 101, 108, 97, 121])
                                else
                                  bif !S.rin (Cf.burst c) 0 100000000 then
                                    (bs [98, 117, 114, 115, 116])
                                  else
                                    bif !S.rin (Cf.limit c) 1 1000 then
                                      (bs [108, 105, 109, 105, 116])
                                    else
                                      bif !S.rin (Cf.queue c) 0 200 then
                                        (bs [113, 117, 101, 117, 101])
                                      else
                                        bif !S.rin (Cf.timeout c) 1 10000 then
                                          (bs [116, 105, 109, 101, 111, 117, 116])
                                        else
                                          bif !S.rin (Cf.ready c) 0 100 then
                                            (bs [114, 101, 97, 100, 121])
                                          else
                                            bif !S.rin (Cf.subset c) 0 100 then
                                              (bs [115, 117, 98, 115, 101, 116])
                                            else
                                              bif !S.rin (Cf.sample c) 0 100 then
                                                (bs [115, 97, 109, 112, 108, 101])
                                              else
                                                (bs [])
  else
    bif decide (Cf.max c = 0) then
      bif decide (Cf.burst c = -1000) then
        bif !S.rin (Cf.target c) 10 1000000 then
          (bs [116, 97, 114, 103, 101, 116])
        else
          bif !S.rin (Cf.util c) 100 1000 then
            (bs [117, 116, 105, 108])
          else
            bif !S.rin (Cf.stable c) 6 600 then
              (bs [115, 116, 97, 98, 108, 101])
            else
              bif !S.rin (Cf.panic c) 1 (Cf.stable c) then
                (bs [112, 97, 110, 105, 99])
              else
                bif !S.rin (Cf.grain c) 1 (Cf.panic c) then
                  (bs [103, 114, 97, 105, 110])
                else
                  bif !S.rin (Cf.threshold c) 1100 10000 then
                    (bs [116, 104, 114, 101, 115, 104, 111, 108, 100])
                  else
                    bif !S.rin (Cf.up c) 1001 1000000 then
                      (bs [117, 112])
                    else
                      bif !S.rin (Cf.down c) 1001 1000000 then
                        (bs [100, 111, 119, 110])
                      else
                        bif !S.rin (Cf.min c) 0 100 then
                          (bs [109, 105, 110])
                        else
                          bif !S.rin (Cf.initial c) 0 100 then
                            (bs [105, 110, 105, 116, 105, 97, 108])
                          else
                            bif !S.rin (Cf.grace c) 0 600 then
                              (bs [103, 114, 97, 99, 101])
                            else
                              bif !S.rin (Cf.delay c) 0 600 then
                                (bs [100, 101, 108, 97, 121])
                              else
                                bif !S.rin (Cf.limit c) 1 1000 then
                                  (bs [108, 105, 109, 105, 116])
                                else
                                  bif !S.rin (Cf.queue c) 0 200 then
                                    (bs [113, 117, 101, 117, 101])
                                  else
                                    bif !S.rin (Cf.timeout c) 1 10000 then
                                      (bs [116, 105, 109, 101, 111, 117, 116])
                                    else
                                      bif !S.rin (Cf.ready c) 0 100 then
                                        (bs [114, 101, 97, 100, 121])
                                      else
                                        bif !S.rin (Cf.subset c) 0 100 then
                                          (bs [115, 117, 98, 115, 101, 116])
                                        else
                                          bif !S.rin (Cf.sample c) 0 100 then
                                            (bs [115, 97, 109, 112, 108, 101])
                                          else
                                            (bs [])
      else
        bif !S.rin (Cf.target c) 10 1000000 then
          (bs [116, 97, 114, 103, 101, 116])
        else
          bif !S.rin (Cf.util c) 100 1000 then
            (bs [117, 116, 105, 108])
          else
            bif !S.rin (Cf.stable c) 6 600 then
              (bs [115, 116, 97, 98, 108, 101])
            else
              bif !S.rin (Cf.panic c) 1 (Cf.stable c) then
                (bs [112, 97, 110, 105, 99])
              else
                bif !S.rin (Cf.grain c) 1 (Cf.panic c) then
                  (bs [103, 114, 97, 105, 110])
                else
                  bif !S.rin (Cf.threshold c) 1100 10000 then
                    (bs [116, 104, 114, 101, 115, 104, 111, 108, 100])
                  else
                    bif !S.rin (Cf.up c) 1001 1000000 then
                      (bs [117, 112])
                    else
                      bif !S.rin (Cf.down c) 1001 1000000 then
                        (bs [100, 111, 119, 110])
                      else
                        bif !S.rin (Cf.min c) 0 100 then
                          (bs [109, 105, 110])
                        else
                          bif !S.rin (Cf.initial c) 0 100 then
                            (bs [105, 110, 105, 116, 105, 97, 108])
                          else
                            bif !S.rin (Cf.grace c) 0 600 then
                              (bs [103, 114, 97, 99, 101])
                            else
                              bif !S.rin (Cf.delay c) 0 600 then
                                (bs [100, 101, 108, 97, 121])
                              else
                                bif !S.rin (Cf.burst c) 0 100000000 then
                                  (bs [98, 117, 114, 115, 116])
                                else
                                  bif !S.rin (Cf.limit c) 1 1000 then
                                    (bs [108, 105, 109, 105, 116])
                                  else
                                    bif !S.rin (Cf.queue c) 0 200 then
                                      (bs [113, 117, 101, 117, 101])
                                    else
                                      bif !S.rin (Cf.timeout c) 1 10000 then
                                        (bs [116, 105, 109, 101, 111, 117, 116])
                                      else
                                        bif !S.rin (Cf.ready c) 0 100 then
                                          (bs [114, 101, 97, 100, 121])
                                        else
                                          bif !S.rin (Cf.subset c) 0 100 then
                                            (bs [115, 117, 98, 115, 101, 116])
                                          else
                                            bif !S.rin (Cf.sample c) 0 100 then
                                              (bs [115, 97, 109, 112, 108, 101])
                                            else
                                              (bs [])
    else
      bif decide (Cf.burst c = -1000) then
        bif !S.rin (Cf.target c) 10 1000000 then
          (bs [116, 97, 114, 103, 101, 116])
        else
          bif !S.rin (Cf.util c) 100 1000 then
            (bs [117, 116, 105, 108])
          else
            bif !S.rin (Cf.stable c) 6 600 then
              (bs [115, 116, 97, 98, 108, 101])
            else
              bif !S.rin (Cf.panic c) 1 (Cf.stable c) then
                (bs [112, 97, 110, 105, 99])
              else
                bif !S.rin (Cf.grain c) 1 (Cf.panic c) then
                  (bs [103, 114, 97, 105, 110])
                else
                  bif !S.rin (Cf.threshold c) 1100 10000 then
                    (bs [116, 104, 114, 101, 115, 104, 111, 108, 100])
                  else
                    bif !S.rin (Cf.up c) 1001 1000000 then
                      (bs [117, 112])
                    else
                      bif !S.rin (Cf.down c) 1001 1000000 then
                        (bs [100, 111, 119, 110])
                      else
                        bif !S.rin (Cf.min c) 0 100 then
                          (bs [109, 105, 110])
                        else
                          bif !S.rin (Cf.max c) (if 1 > Cf.min c then 1 else Cf.min c) 100 then
                            (bs [109, 97, 120])
                          else
                            bif !S.rin (Cf.initial c) 0 100 then
                              (bs [105, 110, 105, 116, 105, 97, 108])
                            else
                              bif !S.rin (Cf.grace c) 0 600 then
                                (bs [103, 114, 97, 99, 101])
                              else
                                bif !S.rin (Cf.delay c) 0 600 then
                                  (bs [100, 101, 108, 97, 121])
                                else
                                  bif !S.rin (Cf.limit c) 1 1000 then
                                    (bs [108, 105, 109, 105, 116])
                                  else
                                    bif !S.rin (Cf.queue c) 0 200 then
                                      (bs [113, 117, 101, 117, 101])
                                    else
                                      bif !S.rin (Cf.timeout c) 1 10000 then
                                        (bs [116, 105, 109, 101, 111, 117, 116])
                                      else
                                        bif !S.rin (Cf.ready c) 0 100 then
                                          (bs [114, 101, 97, 100, 121])
                                        else
                                          bif !S.rin (Cf.subset c) 0 100 then
                                            (bs [115, 117, 98, 115, 101, 116])
                                          else
                                            bif !S.rin (Cf.sample c) 0 100 then
                                              (bs [115, 97, 109, 112, 108, 101])
                                            else
                                              (bs [])
      else
        bif !S.rin (Cf.target c) 10 1000000 then
          (bs [116, 97, 114, 103, 101, 116])
        else
          bif !S.rin (Cf.util c) 100 1000 then
            (bs [117, 116, 105, 108])
          else
            bif !S.rin (Cf.stable c) 6 600 then
              (bs [115, 116, 97, 98, 108, 101])
            else
              bif !S.rin (Cf.panic c) 1 (Cf.stable c) then
                (bs [112, 97, 110, 105, 99])
              else
                bif !S.rin (Cf.grain c) 1 (Cf.panic c) then
                  (bs [103, 114, 97, 105, 110])
                else
                  bif !S.rin (Cf.threshold c) 1100 10000 then
                    (bs [116, 104, 114, 101, 115, 104, 111, 108, 100])
                  else
                    bif !S.rin (Cf.up c) 1001 1000000 then
                      (bs [117, 112])
                    else
                      bif !S.rin (Cf.down c) 1001 1000000 then
                        (bs [100, 111, 119, 110])
                      else
                        bif !S.rin (Cf.min c) 0 100 then
                          (bs [109, 105, 110])
                        else
                          bif !S.rin (Cf.max c) (if 1 > Cf.min c then 1 else Cf.min c) 100 then
                            (bs [109, 97, 120])
                          else
                            bif !S.rin (Cf.initial c) 0 100 then
                              (bs [105, 110, 105, 116, 105, 97, 108])
                            else
                              bif !S.rin (Cf.grace c) 0 600 then
                                (bs [103, 114, 97, 99, 101])
                              else
                                bif !S.rin (Cf.delay c) 0 600 then
                                  (bs [100, 101, 108, 97, 121])
                                else
                                  bif !S.rin (Cf.burst c) 0 100000000 then
                                    (bs [98, 117, 114, 115, 116])
                                  else
                                    bif !S.rin (Cf.limit c) 1 1000 then
                                      (bs [108, 105, 109, 105, 116])
                                    else
                                      bif !S.rin (Cf.queue c) 0 200 then
                                        (bs [113, 117, 101, 117, 101])
                                      else
                                        bif !S.rin (Cf.timeout c) 1 10000 then
                                          (bs [116, 105, 109, 101, 111, 117, 116])
                                        else
                                          bif !S.rin (Cf.ready c) 0 100 then
                                            (bs [114, 101, 97, 100, 121])
                                          else
                                            bif !S.rin (Cf.subset c) 0 100 then
                                              (bs [115, 117, 98, 115, 101, 116])
                                            else
                                              bif !S.rin (Cf.sample c) 0 100 then
                                                (bs [115, 97, 109, 112, 108, 101])
                                              else
                                                (bs [])
theorem S.rwrong_v {R : Type} (c : Cf) (k : AVal → List Blk → Option R) : fnEval tis F67 40 G71 Try.f67 [.agg (cfA c)] [] k = k (.str (S.rwrong c)) [] :=
  (S.rwrong_k c k).trans (bif_lift (f := (fun v : ByteArray => k (.str v) [])) (bif_lift (f := (fun v : ByteArray => k (.str v) [])) (bif_lift (f := (fun v : ByteArray => k (.str v) [])) (bif_lift (f := (fun v : ByteArray => k (.str v) [])) rfl (bif_lift (f := (fun v : ByteArray => k (.str v) [])) rfl (bif_lift (f := (fun v : ByteArray => k (.str v) [])) rfl (bif_lift (f := (fun v : ByteArray => k (.str v) [])) rfl (bif_lift (f := (fun v : ByteArray => k (.str v) [])) rfl (bif_lift (f := (fun v : ByteArray => k (.str v) [])) rfl (bif_lift (f := (fun v : ByteArray => k (.str v) [])) rfl (bif_lift (f := (fun v : ByteArray => k (.str v) [])) rfl (bif_lift (f := (fun v : ByteArray => k (.str v) [])) rfl (bif_lift (f := (fun v : ByteArray => k (.str v) [])) rfl (bif_lift (f := (fun v : ByteArray => k (.str v) [])) rfl (bif_lift (f := (fun v : ByteArray => k (.str v) [])) rfl (bif_lift (f := (fun v : ByteArray => k (.str v) [])) rfl (bif_lift (f := (fun v : ByteArray => k (.str v) [])) rfl (bif_lift (f := (fun v : ByteArray => k (.str v) [])) rfl (bif_lift (f := (fun v : ByteArray => k (.str v) [])) rfl (bif_lift (f := (fun v : ByteArray => k (.str v) [])) rfl (bif_lift (f := (fun v : ByteArray => k (.str v) [])) rfl rfl)))))))))))))))))) (bif_lift (f := (fun v : ByteArray => k (.str v) [])) rfl (bif_lift (f := (fun v : ByteArray => k (.str v) [])) rfl (bif_lift (f := (fun v : ByteArray => k (.str v) [])) rfl (bif_lift (f := (fun v : ByteArray => k (.str v) [])) rfl (bif_lift (f := (fun v : ByteArray => k (.str v) [])) rfl (bif_lift (f := (fun v : ByteArray => k (.str v) [])) rfl (bif_lift (f := (fun v : ByteArray => k (.str v) [])) rfl (bif_lift (f := (fun v : ByteArray => k (.str v) [])) rfl (bif_lift (f := (fun v : ByteArray => k (.str v) [])) rfl (bif_lift (f := (fun v : ByteArray => k (.str v) [])) rfl (bif_lift (f := (fun v : ByteArray => k (.str v) [])) rfl (bif_lift (f := (fun v : ByteArray => k (.str v) [])) rfl (bif_lift (f := (fun v : ByteArray => k (.str v) [])) rfl (bif_lift (f := (fun v : ByteArray => k (.str v) [])) rfl (bif_lift (f := (fun v : ByteArray => k (.str v) [])) rfl (bif_lift (f := (fun v : ByteArray => k (.str v) [])) rfl (bif_lift (f := (fun v : ByteArray => k (.str v) [])) rfl (bif_lift (f := (fun v : ByteArray => k (.str v) [])) rfl (bif_lift (f := (fun v : ByteArray => k (.str v) [])) rfl rfl)))))))))))))))))))) (bif_lift (f := (fun v : ByteArray => k (.str v) [])) (bif_lift (f := (fun v : ByteArray => k (.str v) [])) rfl (bif_lift (f := (fun v : ByteArray => k (.str v) [])) rfl (bif_lift (f := (fun v : ByteArray => k (.str v) [])) rfl (bif_lift (f := (fun v : ByteArray => k (.str v) [])) rfl (bif_lift (f := (fun v : ByteArray => k (.str v) [])) rfl (bif_lift (f := (fun v : ByteArray => k (.str v) [])) rfl (bif_lift (f := (fun v : ByteArray => k (.str v) [])) rfl (bif_lift (f := (fun v : ByteArray => k (.str v) [])) rfl (bif_lift (f := (fun v : ByteArray => k (.str v) [])) rfl (bif_lift (f := (fun v : ByteArray => k (.str v) [])) rfl (bif_lift (f := (fun v : ByteArray => k (.str v) [])) rfl (bif_lift (f := (fun v : ByteArray => k (.str v) [])) rfl (bif_lift (f := (fun v : ByteArray => k (.str v) [])) rfl (bif_lift (f := (fun v : ByteArray => k (.str v) [])) rfl (bif_lift (f := (fun v : ByteArray => k (.str v) [])) rfl (bif_lift (f := (fun v : ByteArray => k (.str v) [])) rfl (bif_lift (f := (fun v : ByteArray => k (.str v) [])) rfl (bif_lift (f := (fun v : ByteArray => k (.str v) [])) rfl (bif_lift (f := (fun v : ByteArray => k (.str v) [])) rfl rfl))))))))))))))))))) (bif_lift (f := (fun v : ByteArray => k (.str v) [])) rfl (bif_lift (f := (fun v : ByteArray => k (.str v) [])) rfl (bif_lift (f := (fun v : ByteArray => k (.str v) [])) rfl (bif_lift (f := (fun v : ByteArray => k (.str v) [])) rfl (bif_lift (f := (fun v : ByteArray => k (.str v) [])) rfl (bif_lift (f := (fun v : ByteArray => k (.str v) [])) rfl (bif_lift (f := (fun v : ByteArray => k (.str v) [])) rfl (bif_lift (f := (fun v : ByteArray => k (.str v) [])) rfl (bif_lift (f := (fun v : ByteArray => k (.str v) [])) rfl (bif_lift (f := (fun v : ByteArray => k (.str v) [])) rfl (bif_lift (f := (fun v : ByteArray => k (.str v) [])) rfl (bif_lift (f := (fun v : ByteArray => k (.str v) [])) rfl (bif_lift (f := (fun v : ByteArray => k (.str v) [])) rfl (bif_lift (f := (fun v : ByteArray => k (.str v) [])) rfl (bif_lift (f := (fun v : ByteArray => k (.str v) [])) rfl (bif_lift (f := (fun v : ByteArray => k (.str v) [])) rfl (bif_lift (f := (fun v : ByteArray => k (.str v) [])) rfl (bif_lift (f := (fun v : ByteArray => k (.str v) [])) rfl (bif_lift (f := (fun v : ByteArray => k (.str v) [])) rfl (bif_lift (f := (fun v : ByteArray => k (.str v) [])) rfl rfl)))))))))))))))))))))) (bif_lift (f := (fun v : ByteArray => k (.str v) [])) (bif_lift (f := (fun v : ByteArray => k (.str v) [])) (bif_lift (f := (fun v : ByteArray => k (.str v) [])) rfl (bif_lift (f := (fun v : ByteArray => k (.str v) [])) rfl (bif_lift (f := (fun v : ByteArray => k (.str v) [])) rfl (bif_lift (f := (fun v : ByteArray => k (.str v) [])) rfl (bif_lift (f := (fun v : ByteArray => k (.str v) [])) rfl (bif_lift (f := (fun v : ByteArray => k (.str v) [])) rfl (bif_lift (f := (fun v : ByteArray => k (.str v) [])) rfl (bif_lift (f := (fun v : ByteArray => k (.str v) [])) rfl (bif_lift (f := (fun v : ByteArray => k (.str v) [])) rfl (bif_lift (f := (fun v : ByteArray => k (.str v) [])) rfl (bif_lift (f := (fun v : ByteArray => k (.str v) [])) rfl (bif_lift (f := (fun v : ByteArray => k (.str v) [])) rfl (bif_lift (f := (fun v : ByteArray => k (.str v) [])) rfl (bif_lift (f := (fun v : ByteArray => k (.str v) [])) rfl (bif_lift (f := (fun v : ByteArray => k (.str v) [])) rfl (bif_lift (f := (fun v : ByteArray => k (.str v) [])) rfl (bif_lift (f := (fun v : ByteArray => k (.str v) [])) rfl (bif_lift (f := (fun v : ByteArray => k (.str v) [])) rfl rfl)))))))))))))))))) (bif_lift (f := (fun v : ByteArray => k (.str v) [])) rfl (bif_lift (f := (fun v : ByteArray => k (.str v) [])) rfl (bif_lift (f := (fun v : ByteArray => k (.str v) [])) rfl (bif_lift (f := (fun v : ByteArray => k (.str v) [])) rfl (bif_lift (f := (fun v : ByteArray => k (.str v) [])) rfl (bif_lift (f := (fun v : ByteArray => k (.str v) [])) rfl (bif_lift (f := (fun v : ByteArray => k (.str v) [])) rfl (bif_lift (f := (fun v : ByteArray => k (.str v) [])) rfl (bif_lift (f := (fun v : ByteArray => k (.str v) [])) rfl (bif_lift (f := (fun v : ByteArray => k (.str v) [])) rfl (bif_lift (f := (fun v : ByteArray => k (.str v) [])) rfl (bif_lift (f := (fun v : ByteArray => k (.str v) [])) rfl (bif_lift (f := (fun v : ByteArray => k (.str v) [])) rfl (bif_lift (f := (fun v : ByteArray => k (.str v) [])) rfl (bif_lift (f := (fun v : ByteArray => k (.str v) [])) rfl (bif_lift (f := (fun v : ByteArray => k (.str v) [])) rfl (bif_lift (f := (fun v : ByteArray => k (.str v) [])) rfl (bif_lift (f := (fun v : ByteArray => k (.str v) [])) rfl (bif_lift (f := (fun v : ByteArray => k (.str v) [])) rfl rfl)))))))))))))))))))) (bif_lift (f := (fun v : ByteArray => k (.str v) [])) (bif_lift (f := (fun v : ByteArray => k (.str v) [])) rfl (bif_lift (f := (fun v : ByteArray => k (.str v) [])) rfl (bif_lift (f := (fun v : ByteArray => k (.str v) [])) rfl (bif_lift (f := (fun v : ByteArray => k (.str v) [])) rfl (bif_lift (f := (fun v : ByteArray => k (.str v) [])) rfl (bif_lift (f := (fun v : ByteArray => k (.str v) [])) rfl (bif_lift (f := (fun v : ByteArray => k (.str v) [])) rfl (bif_lift (f := (fun v : ByteArray => k (.str v) [])) rfl (bif_lift (f := (fun v : ByteArray => k (.str v) [])) rfl (bif_lift (f := (fun v : ByteArray => k (.str v) [])) rfl (bif_lift (f := (fun v : ByteArray => k (.str v) [])) rfl (bif_lift (f := (fun v : ByteArray => k (.str v) [])) rfl (bif_lift (f := (fun v : ByteArray => k (.str v) [])) rfl (bif_lift (f := (fun v : ByteArray => k (.str v) [])) rfl (bif_lift (f := (fun v : ByteArray => k (.str v) [])) rfl (bif_lift (f := (fun v : ByteArray => k (.str v) [])) rfl (bif_lift (f := (fun v : ByteArray => k (.str v) [])) rfl (bif_lift (f := (fun v : ByteArray => k (.str v) [])) rfl (bif_lift (f := (fun v : ByteArray => k (.str v) [])) rfl rfl))))))))))))))))))) (bif_lift (f := (fun v : ByteArray => k (.str v) [])) rfl (bif_lift (f := (fun v : ByteArray => k (.str v) [])) rfl (bif_lift (f := (fun v : ByteArray => k (.str v) [])) rfl (bif_lift (f := (fun v : ByteArray => k (.str v) [])) rfl (bif_lift (f := (fun v : ByteArray => k (.str v) [])) rfl (bif_lift (f := (fun v : ByteArray => k (.str v) [])) rfl (bif_lift (f := (fun v : ByteArray => k (.str v) [])) rfl (bif_lift (f := (fun v : ByteArray => k (.str v) [])) rfl (bif_lift (f := (fun v : ByteArray => k (.str v) [])) rfl (bif_lift (f := (fun v : ByteArray => k (.str v) [])) rfl (bif_lift (f := (fun v : ByteArray => k (.str v) [])) rfl (bif_lift (f := (fun v : ByteArray => k (.str v) [])) rfl (bif_lift (f := (fun v : ByteArray => k (.str v) [])) rfl (bif_lift (f := (fun v : ByteArray => k (.str v) [])) rfl (bif_lift (f := (fun v : ByteArray => k (.str v) [])) rfl (bif_lift (f := (fun v : ByteArray => k (.str v) [])) rfl (bif_lift (f := (fun v : ByteArray => k (.str v) [])) rfl (bif_lift (f := (fun v : ByteArray => k (.str v) [])) rfl (bif_lift (f := (fun v : ByteArray => k (.str v) [])) rfl (bif_lift (f := (fun v : ByteArray => k (.str v) [])) rfl rfl)))))))))))))))))))))))
def H67 : Hnd := fun R args σ k => match args, σ with
  | [.agg [.int .i64 target_, .int .i64 util_, .int .i64 stable_, .int .i64 panic_, .int .i64 grain_, .int .i64 threshold_, .int .i64 up_, .int .i64 down_, .int .i64 min_, .int .i64 max_, .int .i64 initial_, .int .i64 grace_, .int .i64 delay_, .int .i64 burst_, .int .i64 limit_, .int .i64 queue_, .int .i64 timeout_, .int .i64 ready_, .int .i64 subset_, .int .i64 sample_]], [] => k (.str (S.rwrong ⟨target_, util_, stable_, panic_, grain_, threshold_, up_, down_, min_, max_, initial_, grace_, delay_, burst_, limit_, queue_, timeout_, ready_, subset_, sample_⟩)) []
  | _, _ => none
theorem H67_ok : HndOk Try.prog 67 H67 := hnd_ok tis tisOk mixOk G71_ok F67 Try.func67 rfl (by
  intro R args σ k r h
  unfold H67 at h
  split at h
  · rename_i target_ util_ stable_ panic_ grain_ threshold_ up_ down_ min_ max_ initial_ grace_ delay_ burst_ limit_ queue_ timeout_ ready_ subset_ sample_; exact ⟨40, (S.rwrong_v ⟨target_, util_, stable_, panic_, grain_, threshold_, up_, down_, min_, max_, initial_, grace_, delay_, burst_, limit_, queue_, timeout_, ready_, subset_, sample_⟩ _).trans h⟩
  · cases h)
def G67 : Env := Env.add 67 H67 G71
theorem G67_ok : EnvOk Try.prog G67 := envAdd_ok H67_ok G71_ok

/-! spinnakerref1.May -/
def F58 : FCfg := ⟨keepAt [(0, [1, 3, 4, 5]), (1, [2])], loopAt [], []⟩
theorem S.rmay_k {R : Type} (c : Cf) (k : AVal → List Blk → Option R) : fnEval tis F58 0 G67 Try.f58 [.agg (cfA c)] [] k =
  (k (.bool (Array.toList (ByteArray.data (S.rwrong (Cf.mk (Cf.target c) (Cf.util c) (Cf.stable c) (Cf.panic c) (Cf.grain c) (Cf.threshold c) (Cf.up c) (Cf.down c) (Cf.min c) (Cf.max c) (Cf.initial c) (Cf.grace c) (Cf.delay c) (Cf.burst c) (Cf.limit c) (Cf.queue c) (Cf.timeout c) (Cf.ready c) (Cf.subset c) (Cf.sample c)))) == Array.toList (ByteArray.data (bs [])))) ([])) := by kernel_rfl
def S.rmay (c : Cf) : Bool :=
  (Array.toList (ByteArray.data (S.rwrong (Cf.mk (Cf.target c) (Cf.util c) (Cf.stable c) (Cf.panic c) (Cf.grain c) (Cf.threshold c) (Cf.up c) (Cf.down c) (Cf.min c) (Cf.max c) (Cf.initial c) (Cf.grace c) (Cf.delay c) (Cf.burst c) (Cf.limit c) (Cf.queue c) (Cf.timeout c) (Cf.ready c) (Cf.subset c) (Cf.sample c)))) == Array.toList (ByteArray.data (bs [])))
theorem S.rmay_v {R : Type} (c : Cf) (k : AVal → List Blk → Option R) : fnEval tis F58 0 G67 Try.f58 [.agg (cfA c)] [] k = k (.bool (S.rmay c)) [] :=
  (S.rmay_k c k).trans rfl
def H58 : Hnd := fun R args σ k => match args, σ with
  | [.agg [.int .i64 target_, .int .i64 util_, .int .i64 stable_, .int .i64 panic_, .int .i64 grain_, .int .i64 threshold_, .int .i64 up_, .int .i64 down_, .int .i64 min_, .int .i64 max_, .int .i64 initial_, .int .i64 grace_, .int .i64 delay_, .int .i64 burst_, .int .i64 limit_, .int .i64 queue_, .int .i64 timeout_, .int .i64 ready_, .int .i64 subset_, .int .i64 sample_]], [] => k (.bool (S.rmay ⟨target_, util_, stable_, panic_, grain_, threshold_, up_, down_, min_, max_, initial_, grace_, delay_, burst_, limit_, queue_, timeout_, ready_, subset_, sample_⟩)) []
  | _, _ => none
theorem H58_ok : HndOk Try.prog 58 H58 := hnd_ok tis tisOk mixOk G67_ok F58 Try.func58 rfl (by
  intro R args σ k r h
  unfold H58 at h
  split at h
  · rename_i target_ util_ stable_ panic_ grain_ threshold_ up_ down_ min_ max_ initial_ grace_ delay_ burst_ limit_ queue_ timeout_ ready_ subset_ sample_; exact ⟨0, (S.rmay_v ⟨target_, util_, stable_, panic_, grain_, threshold_, up_, down_, min_, max_, initial_, grace_, delay_, burst_, limit_, queue_, timeout_, ready_, subset_, sample_⟩ _).trans h⟩
  · cases h)
def G58 : Env := Env.add 58 H58 G67
theorem G58_ok : EnvOk Try.prog G58 := envAdd_ok H58_ok G67_ok

/-! spinnakerref1.Default -/
def F43 : FCfg := ⟨keepAt [(0, [0, 1]), (1, [0])], loopAt [], []⟩
theorem S.dflt_k {R : Type}  (k : AVal → List Blk → Option R) : fnEval tis F43 0 G58 Try.f43 [] [] k =
  (k (.agg [.int .i64 10000, .int .i64 700, .int .i64 60, .int .i64 6, .int .i64 1, .int .i64 2000, .int .i64 10000, .int .i64 2000, .int .i64 0, .int .i64 0, .int .i64 1, .int .i64 30, .int .i64 0, .int .i64 20000, .int .i64 10, .int .i64 100, .int .i64 60, .int .i64 3, .int .i64 0, .int .i64 0]) ([])) := by kernel_rfl
def S.dflt  : Int × Int × Int × Int × Int × Int × Int × Int × Int × Int × Int × Int × Int × Int × Int × Int × Int × Int × Int × Int :=
  (10000, 700, 60, 6, 1, 2000, 10000, 2000, 0, 0, 1, 30, 0, 20000, 10, 100, 60, 3, 0, 0)
theorem S.dflt_v {R : Type}  (k : AVal → List Blk → Option R) : fnEval tis F43 0 G58 Try.f43 [] [] k = k (.agg [(.int .i64 (S.dflt).1), (.int .i64 (S.dflt).2.1), (.int .i64 (S.dflt).2.2.1), (.int .i64 (S.dflt).2.2.2.1), (.int .i64 (S.dflt).2.2.2.2.1), (.int .i64 (S.dflt).2.2.2.2.2.1), (.int .i64 (S.dflt).2.2.2.2.2.2.1), (.int .i64 (S.dflt).2.2.2.2.2.2.2.1), (.int .i64 (S.dflt).2.2.2.2.2.2.2.2.1), (.int .i64 (S.dflt).2.2.2.2.2.2.2.2.2.1), (.int .i64 (S.dflt).2.2.2.2.2.2.2.2.2.2.1), (.int .i64 (S.dflt).2.2.2.2.2.2.2.2.2.2.2.1), (.int .i64 (S.dflt).2.2.2.2.2.2.2.2.2.2.2.2.1), (.int .i64 (S.dflt).2.2.2.2.2.2.2.2.2.2.2.2.2.1), (.int .i64 (S.dflt).2.2.2.2.2.2.2.2.2.2.2.2.2.2.1), (.int .i64 (S.dflt).2.2.2.2.2.2.2.2.2.2.2.2.2.2.2.1), (.int .i64 (S.dflt).2.2.2.2.2.2.2.2.2.2.2.2.2.2.2.2.1), (.int .i64 (S.dflt).2.2.2.2.2.2.2.2.2.2.2.2.2.2.2.2.2.1), (.int .i64 (S.dflt).2.2.2.2.2.2.2.2.2.2.2.2.2.2.2.2.2.2.1), (.int .i64 (S.dflt).2.2.2.2.2.2.2.2.2.2.2.2.2.2.2.2.2.2.2)]) [] :=
  (S.dflt_k k).trans rfl
def H43 : Hnd := fun R args σ k => match args, σ with
  | [], [] => k (.agg [(.int .i64 (S.dflt).1), (.int .i64 (S.dflt).2.1), (.int .i64 (S.dflt).2.2.1), (.int .i64 (S.dflt).2.2.2.1), (.int .i64 (S.dflt).2.2.2.2.1), (.int .i64 (S.dflt).2.2.2.2.2.1), (.int .i64 (S.dflt).2.2.2.2.2.2.1), (.int .i64 (S.dflt).2.2.2.2.2.2.2.1), (.int .i64 (S.dflt).2.2.2.2.2.2.2.2.1), (.int .i64 (S.dflt).2.2.2.2.2.2.2.2.2.1), (.int .i64 (S.dflt).2.2.2.2.2.2.2.2.2.2.1), (.int .i64 (S.dflt).2.2.2.2.2.2.2.2.2.2.2.1), (.int .i64 (S.dflt).2.2.2.2.2.2.2.2.2.2.2.2.1), (.int .i64 (S.dflt).2.2.2.2.2.2.2.2.2.2.2.2.2.1), (.int .i64 (S.dflt).2.2.2.2.2.2.2.2.2.2.2.2.2.2.1), (.int .i64 (S.dflt).2.2.2.2.2.2.2.2.2.2.2.2.2.2.2.1), (.int .i64 (S.dflt).2.2.2.2.2.2.2.2.2.2.2.2.2.2.2.2.1), (.int .i64 (S.dflt).2.2.2.2.2.2.2.2.2.2.2.2.2.2.2.2.2.1), (.int .i64 (S.dflt).2.2.2.2.2.2.2.2.2.2.2.2.2.2.2.2.2.2.1), (.int .i64 (S.dflt).2.2.2.2.2.2.2.2.2.2.2.2.2.2.2.2.2.2.2)]) []
  | _, _ => none
theorem H43_ok : HndOk Try.prog 43 H43 := hnd_ok tis tisOk mixOk G58_ok F43 Try.func43 rfl (by
  intro R args σ k r h
  unfold H43 at h
  split at h
  · exact ⟨0, (S.dflt_v _).trans h⟩
  · cases h)
def G43 : Env := Env.add 43 H43 G58
theorem G43_ok : EnvOk Try.prog G43 := envAdd_ok H43_ok G58_ok
end Go.Proofs.Ytfoaihjkmfhaoaa.AB
