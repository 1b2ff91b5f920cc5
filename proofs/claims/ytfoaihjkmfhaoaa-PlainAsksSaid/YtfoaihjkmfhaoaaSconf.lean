/- The functions of the settings, as plain functions. -/
import Derived.Test.YtfoaihjkmfhaoaaTis
import Derived.Test.YtfoaihjkmfhaoaaFwZ
namespace Go.Proofs.Ytfoaihjkmfhaoaa.AB
set_option linter.unusedVariables false

/-- settings -/
structure Cf where
  target : Int
  util : Int
  stable : Int
  panic : Int
  grain : Int
  threshold : Int
  up : Int
  down : Int
  min : Int
  max : Int
  initial : Int
  grace : Int
  delay : Int
  burst : Int
  limit : Int
  queue : Int
  timeout : Int
  ready : Int
  subset : Int
  sample : Int
def cfA (c : Cf) : List AVal := [.int .i64 c.target, .int .i64 c.util, .int .i64 c.stable, .int .i64 c.panic, .int .i64 c.grain, .int .i64 c.threshold, .int .i64 c.up, .int .i64 c.down, .int .i64 c.min, .int .i64 c.max, .int .i64 c.initial, .int .i64 c.grace, .int .i64 c.delay, .int .i64 c.burst, .int .i64 c.limit, .int .i64 c.queue, .int .i64 c.timeout, .int .i64 c.ready, .int .i64 c.subset, .int .i64 c.sample]

/-! conf.within -/
def F68 : FCfg := ⟨keepAt [(0, [0, 1, 2, 11, 12, 13, 14, 15, 17, 18, 19, 20, 21, 22, 23, 24, 25, 26, 27, 28, 29, 30, 31, 32, 33, 34, 35, 36, 37, 38, 39, 40]), (1, [0, 1, 2, 7, 8, 17, 18, 19, 20, 21, 22, 23, 24, 25, 26, 27, 28, 29, 30, 31, 32, 33, 34, 35, 36, 37, 38, 39, 40]), (2, [0, 1, 2, 7, 16, 17, 18, 19, 20, 21, 22, 23, 24, 25, 26, 27, 28, 29, 30, 31, 32, 33, 34, 35, 36, 37, 38, 39, 40]), (3, [6]), (4, [1, 2, 9, 10, 30, 31, 32, 33, 34, 35, 36, 37, 38, 39, 40]), (5, [6])], loopAt [], []⟩
theorem S.within_k {R : Type} (n lo hi : Int) (k : AVal → List Blk → Option R) : fnEval tis F68 0 Env.none Try.f68 [.iface 2 (.int .i64 n), .int .i64 lo, .int .i64 hi] [] k =
  (bif decide (lo ≤ n) then
    k (.bool (decide (n ≤ hi))) ([])
  else
    k (.bool false) ([])) := by kernel_rfl
def S.within (n lo hi : Int) : Bool :=
  bif decide (lo ≤ n) then
    (decide (n ≤ hi))
  else
    (false)
theorem S.within_v {R : Type} (n lo hi : Int) (k : AVal → List Blk → Option R) : fnEval tis F68 0 Env.none Try.f68 [.iface 2 (.int .i64 n), .int .i64 lo, .int .i64 hi] [] k = k (.bool (S.within n lo hi)) [] :=
  (S.within_k n lo hi k).trans (bif_lift (f := (fun v : Bool => k (.bool v) [])) rfl rfl)
theorem S.within1_k {R : Type} (n lo hi : Int) (k : AVal → List Blk → Option R) : fnEval tis F68 0 Env.none Try.f68 [.iface 3 (.int .i64 n), .int .i64 lo, .int .i64 hi] [] k =
  (bif decide (lo ≤ n) then
    k (.bool (decide (n ≤ hi))) ([])
  else
    k (.bool false) ([])) := by kernel_rfl
def S.within1 (n lo hi : Int) : Bool :=
  bif decide (lo ≤ n) then
    (decide (n ≤ hi))
  else
    (false)
theorem S.within1_v {R : Type} (n lo hi : Int) (k : AVal → List Blk → Option R) : fnEval tis F68 0 Env.none Try.f68 [.iface 3 (.int .i64 n), .int .i64 lo, .int .i64 hi] [] k = k (.bool (S.within1 n lo hi)) [] :=
  (S.within1_k n lo hi k).trans (bif_lift (f := (fun v : Bool => k (.bool v) [])) rfl rfl)
def H68 : Hnd := fun R args σ k => match args, σ with
  | [.iface 2 (.int .i64 n), .int .i64 lo, .int .i64 hi], [] => k (.bool (S.within n lo hi)) []
  | [.iface 3 (.int .i64 n), .int .i64 lo, .int .i64 hi], [] => k (.bool (S.within1 n lo hi)) []
  | _, _ => none
theorem H68_ok : HndOk Try.prog 68 H68 := hnd_ok tis tisOk mixOk envNone_ok F68 Try.func68 rfl (by
  intro R args σ k r h
  unfold H68 at h
  split at h
  · rename_i n lo hi; exact ⟨0, (S.within_v n lo hi _).trans h⟩
  · rename_i n lo hi; exact ⟨0, (S.within1_v n lo hi _).trans h⟩
  · cases h)
def G68 : Env := Env.add 68 H68 Env.none
theorem G68_ok : EnvOk Try.prog G68 := envAdd_ok H68_ok envNone_ok

/-! conf.Wrong -/
def F66 : FCfg := ⟨keepAt [(0, [1, 5, 6, 7, 9, 10, 11, 12, 13, 14, 15, 16, 17, 18, 19, 20, 21, 22, 23, 24, 25, 26, 27, 28, 29, 30, 31, 32, 33, 34, 35, 36, 37, 38, 39, 40, 41, 42, 43, 44, 45, 46, 47, 48, 49, 50, 51, 52, 53, 54, 55, 56, 57, 58, 59, 60, 61, 62, 63, 64, 65, 66, 67, 68, 69, 70, 71, 72, 73, 74, 75, 76, 77, 78, 79, 80, 81, 82, 83, 84, 85, 86, 87, 88, 89, 90, 91, 92, 93, 94, 95, 96, 97, 98, 99, 100, 101, 102, 103, 104, 105, 106, 107, 108, 109, 110, 111, 112, 113, 114, 115, 116, 117, 118, 119, 120, 121, 122, 123, 124, 125, 126, 127, 128, 129, 133, 134, 135, 136, 138, 139, 140]), (1, [1, 3, 5, 6, 7, 9, 10, 11, 12, 13, 14, 15, 16, 17, 18, 19, 20, 21, 22, 23, 24, 25, 26, 27, 28, 29, 30, 31, 32, 33, 34, 35, 36, 37, 38, 39, 40, 41, 42, 43, 44, 45, 46, 47, 48, 49, 50, 51, 52, 53, 54, 55, 56, 57, 58, 59, 60, 61, 62, 63, 64, 65, 66, 67, 68, 69, 70, 71, 72, 73, 74, 75, 76, 77, 78, 79, 80, 81, 82, 83, 84, 85, 86, 87, 88, 89, 90, 91, 92, 93, 94, 95, 96, 97, 98, 99, 100, 101, 102, 103, 104, 105, 106, 107, 108, 109, 110, 111, 112, 113, 114, 115, 116, 117, 118, 119, 120, 121, 122, 123, 124, 125, 126, 127, 128, 129, 133, 134, 135, 136, 138, 139, 140]), (2, [1, 3, 5, 8, 9, 10, 11, 12, 13, 14, 15, 16, 17, 18, 19, 20, 21, 22, 23, 24, 25, 26, 27, 28, 29, 30, 31, 32, 33, 34, 35, 36, 37, 38, 39, 40, 41, 42, 43, 44, 45, 46, 47, 48, 49, 50, 51, 52, 53, 54, 55, 56, 57, 58, 59, 60, 61, 62, 63, 64, 65, 66, 67, 68, 69, 70, 71, 72, 73, 74, 75, 76, 77, 78, 79, 80, 81, 82, 83, 84, 85, 86, 87, 88, 89, 90, 91, 92, 93, 94, 95, 96, 97, 98, 99, 100, 101, 102, 103, 104, 105, 106, 107, 108, 109, 110, 111, 112, 113, 114, 115, 116, 117, 118, 119, 120, 121, 122, 123, 124, 125, 126, 127, 128, 129, 133, 134, 135, 136, 138, 139, 140]), (3, [1, 3, 5, 11, 12, 13, 14, 15, 16, 17, 18, 19, 20, 21, 22, 23, 24, 25, 26, 27, 28, 29, 30, 31, 32, 33, 34, 35, 36, 37, 38, 39, 40, 41, 42, 43, 44, 45, 46, 47, 48, 49, 50, 51, 52, 53, 54, 55, 56, 57, 58, 59, 60, 61, 62, 63, 64, 65, 66, 67, 68, 69, 70, 71, 72, 73, 74, 75, 76, 77, 78, 79, 80, 81, 82, 83, 84, 85, 86, 87, 88, 89, 90, 91, 92, 93, 94, 95, 96, 97, 98, 99, 100, 101, 102, 103, 104, 105, 106, 107, 108, 109, 110, 111, 112, 113, 114, 115, 116, 117, 118, 119, 120, 121, 122, 123, 124, 125, 126, 127, 128, 129, 133, 134, 135, 136, 138, 139, 140]), (4, [5, 129, 130, 131, 133, 134, 135, 136, 138, 139, 140]), (5, [5, 129, 130, 131, 132, 133, 134, 135, 136, 138, 139, 140]), (6, [5, 129, 130, 131, 133, 134, 135, 136, 138, 139, 140]), (7, [5, 129, 130, 131, 133, 134, 135, 136, 137, 138, 139, 140]), (8, [2]), (9, [5, 129, 130, 131, 133, 134, 135, 136, 138, 139, 140]), (10, [2])], loopAt [(5, [5, 129, 130, 131, 133, 134, 135, 136, 138, 139, 140], [])], []⟩
theorem S.wrong_k {R : Type} (c : Cf) (k : AVal → List Blk → Option R) : fnEval tis F66 40 G68 Try.f66 [.agg (cfA c)] [] k =
  (bif !decide (Cf.max c = 0) then
    bif decide (Cf.max c = 0) then
      bif decide (Cf.burst c = -1000) then
        bif !S.within (Cf.target c) 10 1000000 then
          k (.str (bs [116, 97, 114, 103, 101, 116])) ([])
        else
          bif !S.within (Cf.util c) 100 1000 then
            k (.str (bs [117, 116, 105, 108])) ([])
          else
            bif !S.within1 (Cf.stable c) 6 600 then
              k (.str (bs [115, 116, 97, 98, 108, 101])) ([])
            else
              bif !S.within1 (Cf.panic c) 1 (Cf.stable c) then
                k (.str (bs [112, 97, 110, 105, 99])) ([])
              else
                bif !S.within1 (Cf.grain c) 1 (Cf.panic c) then
                  k (.str (bs [103, 114, 97, 105, 110])) ([])
                else
                  bif !S.within (Cf.threshold c) 1100 10000 then
                    k (.str (bs [116, 104, 114, 101, 115, 104, 111, 108, 100])) ([])
                  else
                    bif !S.within (Cf.up c) 1001 1000000 then
                      k (.str (bs [117, 112])) ([])
                    else
                      bif !S.within (Cf.down c) 1001 1000000 then
                        k (.str (bs [100, 111, 119, 110])) ([])
                      else
                        bif !S.within1 (Cf.min c) 0 100 then
                          k (.str (bs [109, 105, 110])) ([])
                        else
                          bif !S.within1 (Cf.initial c) 0 (Cf.max c) then
                            k (.str (bs [105, 110, 105, 116, 105, 97, 108])) ([])
                          else
                            bif !S.within1 (Cf.grace c) 0 600 then
                              k (.str (bs [103, 114, 97, 99, 101])) ([])
                            else
                              bif !S.within1 (Cf.delay c) 0 600 then
                                k (.str (bs [100, 101, 108, 97, 121])) ([])
                              else
                                bif !S.within1 (Cf.limit c) 1 1000 then
                                  k (.str (bs [108, 105, 109, 105, 116])) ([])
                                else
                                  bif !S.within1 (Cf.queue c) 0 200 then
                                    k (.str (bs [113, 117, 101, 117, 101])) ([])
                                  else
                                    bif !S.within1 (Cf.timeout c) 1 10000 then
                                      k (.str (bs [116, 105, 109, 101, 111, 117, 116])) ([])
                                    else
                                      bif !S.within1 (Cf.ready c) 0 100 then
                                        k (.str (bs [114, 101, 97, 100, 121])) ([])
                                      else
                                        bif !S.within1 (Cf.subset c) 0 100 then
                                          k (.str (bs [115, 117, 98, 115, 101, 116])) ([])
                                        else
                                          bif !S.within1 (Cf.sample c) 0 100 then
                                            k (.str (bs [115, 97, 109, 112, 108, 101])) ([])
                                          else
                                            k (.str (bs [])) ([])
      else
        bif !S.within (Cf.target c) 10 1000000 then
          k (.str (bs [116, 97, 114, 103, 101, 116])) ([])
        else
          bif !S.within (Cf.util c) 100 1000 then
            k (.str (bs [117, 116, 105, 108])) ([])
          else
            bif !S.within1 (Cf.stable c) 6 600 then
              k (.str (bs [115, 116, 97, 98, 108, 101])) ([])
            else
              bif !S.within1 (Cf.panic c) 1 (Cf.stable c) then
                k (.str (bs [112, 97, 110, 105, 99])) ([])
              else
                bif !S.within1 (Cf.grain c) 1 (Cf.panic c) then
                  k (.str (bs [103, 114, 97, 105, 110])) ([])
                else
                  bif !S.within (Cf.threshold c) 1100 10000 then
                    k (.str (bs [116, 104, 114, 101, 115, 104, 111, 108, 100])) ([])
                  else
                    bif !S.within (Cf.up c) 1001 1000000 then
                      k (.str (bs [117, 112])) ([])
                    else
                      bif !S.within (Cf.down c) 1001 1000000 then
                        k (.str (bs [100, 111, 119, 110])) ([])
                      else
                        bif !S.within1 (Cf.min c) 0 100 then
                          k (.str (bs [109, 105, 110])) ([])
                        else
                          bif !S.within1 (Cf.initial c) 0 (Cf.max c) then
                            k (.str (bs [105, 110, 105, 116, 105, 97, 108])) ([])
                          else
                            bif !S.within1 (Cf.grace c) 0 600 then
                              k (.str (bs [103, 114, 97, 99, 101])) ([])
                            else
                              bif !S.within1 (Cf.delay c) 0 600 then
                                k (.str (bs [100, 101, 108, 97, 121])) ([])
                              else
                                bif !S.within (Cf.burst c) 0 100000000 then
                                  k (.str (bs [98, 117, 114, 115, 116])) ([])
                                else
                                  bif !S.within1 (Cf.limit c) 1 1000 then
                                    k (.str (bs [108, 105, 109, 105, 116])) ([])
                                  else
                                    bif !S.within1 (Cf.queue c) 0 200 then
                                      k (.str (bs [113, 117, 101, 117, 101])) ([])
                                    else
                                      bif !S.within1 (Cf.timeout c) 1 10000 then
                                        k (.str (bs [116, 105, 109, 101, 111, 117, 116])) ([])
                                      else
                                        bif !S.within1 (Cf.ready c) 0 100 then
                                          k (.str (bs [114, 101, 97, 100, 121])) ([])
                                        else
                                          bif !S.within1 (Cf.subset c) 0 100 then
                                            k (.str (bs [115, 117, 98, 115, 101, 116])) ([])
                                          else
                                            bif !S.within1 (Cf.sample c) 0 100 then
                                              k (.str (bs [115, 97, 109, 112, 108, 101])) ([])
                                            else
                                              k (.str (bs [])) ([])
    else
      bif decide (Cf.burst c = -1000) then
        bif !S.within (Cf.target c) 10 1000000 then
          k (.str (bs [116, 97, 114, 103, 101, 116])) ([])
        else
          bif !S.within (Cf.util c) 100 1000 then
            k (.str (bs [117, 116, 105, 108])) ([])
          else
            bif !S.within1 (Cf.stable c) 6 600 then
              k (.str (bs [115, 116, 97, 98, 108, 101])) ([])
            else
              bif !S.within1 (Cf.panic c) 1 (Cf.stable c) then
                k (.str (bs [112, 97, 110, 105, 99])) ([])
              else
                bif !S.within1 (Cf.grain c) 1 (Cf.panic c) then
                  k (.str (bs [103, 114, 97, 105, 110])) ([])
                else
                  bif !S.within (Cf.threshold c) 1100 10000 then
                    k (.str (bs [116, 104, 114, 101, 115, 104, 111, 108, 100])) ([])
                  else
                    bif !S.within (Cf.up c) 1001 1000000 then
                      k (.str (bs [117, 112])) ([])
                    else
                      bif !S.within (Cf.down c) 1001 1000000 then
                        k (.str (bs [100, 111, 119, 110])) ([])
                      else
                        bif !S.within1 (Cf.min c) 0 100 then
                          k (.str (bs [109, 105, 110])) ([])
                        else
                          bif !S.within1 (Cf.max c) (if 1 > Cf.min c then 1 else Cf.min c) 100 then
                            k (.str (bs [109, 97, 120])) ([])
                          else
                            bif !S.within1 (Cf.initial c) 0 (Cf.max c) then
                              k (.str (bs [105, 110, 105, 116, 105, 97, 108])) ([])
                            else
                              bif !S.within1 (Cf.grace c) 0 600 then
                                k (.str (bs [103, 114, 97, 99, 101])) ([])
                              else
                                bif !S.within1 (Cf.delay c) 0 600 then
                                  k (.str (bs [100, 101, 108, 97, 121])) ([])
                                else
                                  bif !S.within1 (Cf.limit c) 1 1000 then
                                    k (.str (bs [108, 105, 109, 105, 116])) ([])
                                  else
                                    bif !S.within1 (Cf.queue c) 0 200 then
                                      k (.str (bs [113, 117, 101, 117, 101])) ([])
                                    else
                                      bif !S.within1 (Cf.timeout c) 1 10000 then
                                        k (.str (bs [116, 105, 109, 101, 111, 117, 116])) ([])
                                      else
                                        bif !S.within1 (Cf.ready c) 0 100 then
                                          k (.str (bs [114, 101, 97, 100, 121])) ([])
                                        else
                                          bif !S.within1 (Cf.subset c) 0 100 then
                                            k (.str (bs [115, 117, 98, 115, 101, 116])) ([])
                                          else
                                            bif !S.within1 (Cf.sample c) 0 100 then
                                              k (.str (bs [115, 97, 109, 112, 108, 101])) ([])
                                            else
                                              k (.str (bs [])) ([])
      else
        bif !S.within (Cf.target c) 10 1000000 then
          k (.str (bs [116, 97, 114, 103, 101, 116])) ([])
        else
          bif !S.within (Cf.util c) 100 1000 then
            k (.str (bs [117, 116, 105, 108])) ([])
          else
            bif !S.within1 (Cf.stable c) 6 600 then
              k (.str (bs [115, 116, 97, 98, 108, 101])) ([])
            else
              bif !S.within1 (Cf.panic c) 1 (Cf.stable c) then
                k (.str (bs [112, 97, 110, 105, 99])) ([])
              else
                bif !S.within1 (Cf.grain c) 1 (Cf.panic c) then
                  k (.str (bs [103, 114, 97, 105, 110])) ([])
                else
                  bif !S.within (Cf.threshold c) 1100 10000 then
                    k (.str (bs [116, 104, 114, 101, 115, 104, 111, 108, 100])) ([])
                  else
                    bif !S.within (Cf.up c) 1001 1000000 then
                      k (.str (bs [117, 112])) ([])
                    else
                      bif !S.within (Cf.down c) 1001 1000000 then
                        k (.str (bs [100, 111, 119, 110])) ([])
                      else
                        bif !S.within1 (Cf.min c) 0 100 then
                          k (.str (bs [109, 105, 110])) ([])
                        else
                          bif !S.within1 (Cf.max c) (if 1 > Cf.min c then 1 else Cf.min c) 100 then
                            k (.str (bs [109, 97, 120])) ([])
                          else
                            bif !S.within1 (Cf.initial c) 0 (Cf.max c) then
                              k (.str (bs [105, 110, 105, 116, 105, 97, 108])) ([])
                            else
                              bif !S.within1 (Cf.grace c) 0 600 then
                                k (.str (bs [103, 114, 97, 99, 101])) ([])
                              else
                                bif !S.within1 (Cf.delay c) 0 600 then
                                  k (.str (bs [100, 101, 108, 97, 121])) ([])
                                else
                                  bif !S.within (Cf.burst c) 0 100000000 then
                                    k (.str (bs [98, 117, 114, 115, 116])) ([])
                                  else
                                    bif !S.within1 (Cf.limit c) 1 1000 then
                                      k (.str (bs [108, 105, 109, 105, 116])) ([])
                                    else
                                      bif !S.within1 (Cf.queue c) 0 200 then
                                        k (.str (bs [113, 117, 101, 117, 101])) ([])
                                      else
                                        bif !S.within1 (Cf.timeout c) 1 10000 then
                                          k (.str (bs [116, 105, 109, 101, 111, 117, 116])) ([])
                                        else
                                          bif !S.within1 (Cf.ready c) 0 100 then
                                            k (.str (bs [114, 101, 97, 100, 121])) ([])
                                          else
                                            bif !S.within1 (Cf.subset c) 0 100 then
                                              k (.str (bs [115, 117, 98, 115, 101, 116])) ([])
                                            else
                                              bif !S.within1 (Cf.sample c) 0 100 then
                                                k (.str (bs [115, 97, 109, 112, 108, 101])) ([])
                                              else
                                                k (.str (bs [])) ([])
  else
    bif decide (Cf.max c = 0) then
      bif decide (Cf.burst c = -1000) then
        bif !S.within (Cf.target c) 10 1000000 then
          k (.str (bs [116, 97, 114, 103, 101, 116])) ([])
        else
          bif !S.within (Cf.util c) 100 1000 then
            k (.str (bs [117, 116, 105, 108])) ([])
          else
            bif !S.within1 (Cf.stable c) 6 600 then
              k (.str (bs [115, 116, 97, 98, 108, 101])) ([])
            else
              bif !S.within1 (Cf.panic c) 1 (Cf.stable c) then
                k (.str (bs [112, 97, 110, 105, 99])) ([])
              else
                bif !S.within1 (Cf.grain c) 1 (Cf.panic c) then
                  k (.str (bs [103, 114, 97, 105, 110])) ([])
                else
                  bif !S.within (Cf.threshold c) 1100 10000 then
                    k (.str (bs [116, 104, 114, 101, 115, 104, 111, 108, 100])) ([])
                  else
                    bif !S.within (Cf.up c) 1001 1000000 then
                      k (.str (bs [117, 112])) ([])
                    else
                      bif !S.within (Cf.down c) 1001 1000000 then
                        k (.str (bs [100, 111, 119, 110])) ([])
                      else
                        bif !S.within1 (Cf.min c) 0 100 then
                          k (.str (bs [109, 105, 110])) ([])
                        else
                          bif !S.within1 (Cf.initial c) 0 100 then
                            k (.str (bs [105, 110, 105, 116, 105, 97, 108])) ([])
                          else
                            bif !S.within1 (Cf.grace c) 0 600 then
                              k (.str (bs [103, 114, 97, 99, 101])) ([])
                            else
                              bif !S.within1 (Cf.delay c) 0 600 then
                                k (.str (bs [100, 101, 108, 97, 121])) ([])
                              else
                                bif !S.within1 (Cf.limit c) 1 1000 then
                                  k (.str (bs [108, 105, 109, 105, 116])) ([])
                                else
                                  bif !S.within1 (Cf.queue c) 0 200 then
                                    k (.str (bs [113, 117, 101, 117, 101])) ([])
                                  else
                                    bif !S.within1 (Cf.timeout c) 1 10000 then
                                      k (.str (bs [116, 105, 109, 101, 111, 117, 116])) ([])
                                    else
                                      bif !S.within1 (Cf.ready c) 0 100 then
                                        k (.str (bs [114, 101, 97, 100, 121])) ([])
                                      else
                                        bif !S.within1 (Cf.subset c) 0 100 then
                                          k (.str (bs [115, 117, 98, 115, 101, 116])) ([])
                                        else
                                          bif !S.within1 (Cf.sample c) 0 100 then
                                            k (.str (bs [115, 97, 109, 112, 108, 101])) ([])
                                          else
                                            k (.str (bs [])) ([])
      else
        bif !S.within (Cf.target c) 10 1000000 then
          k (.str (bs [116, 97, 114, 103, 101, 116])) ([])
        else
          bif !S.within (Cf.util c) 100 1000 then
            k (.str (bs [117, 116, 105, 108])) ([])
          else
            bif !S.within1 (Cf.stable c) 6 600 then
              k (.str (bs [115, 116, 97, 98, 108, 101])) ([])
            else
              bif !S.within1 (Cf.panic c) 1 (Cf.stable c) then
                k (.str (bs [112, 97, 110, 105, 99])) ([])
              else
                bif !S.within1 (Cf.grain c) 1 (Cf.panic c) then
                  k (.str (bs [103, 114, 97, 105, 110])) ([])
                else
                  bif !S.within (Cf.threshold c) 1100 10000 then
                    k (.str (bs [116, 104, 114, 101, 115, 104, 111, 108, 100])) ([])
                  else
                    bif !S.within (Cf.up c) 1001 1000000 then
                      k (.str (bs [117, 112])) ([])
                    else
                      bif !S.within (Cf.down c) 1001 1000000 then
                        k (.str (bs [100, 111, 119, 110])) ([])
                      else
                        bif !S.within1 (Cf.min c) 0 100 then
                          k (.str (bs [109, 105, 110])) ([])
                        else
                          bif !S.within1 (Cf.initial c) 0 100 then
                            k (.str (bs [105, 110, 105, 116, 105, 97, 108])) ([])
                          else
                            bif !S.within1 (Cf.grace c) 0 600 then
                              k (.str (bs [103, 114, 97, 99, 101])) ([])
                            else
                              bif !S.within1 (Cf.delay c) 0 600 then
                                k (.str (bs [100, 101, 108, 97, 121])) ([])
                              else
                                bif !S.within (Cf.burst c) 0 100000000 then
                                  k (.str (bs [98, 117, 114, 115, 116])) ([])
                                else
                                  bif !S.within1 (Cf.limit c) 1 1000 then
                                    k (.str (bs [108, 105, 109, 105, 116])) ([])
                                  else
                                    bif !S.within1 (Cf.queue c) 0 200 then
                                      k (.str (bs [113, 117, 101, 117, 101])) ([])
                                    else
                                      bif !S.within1 (Cf.timeout c) 1 10000 then
                                        k (.str (bs [116, 105, 109, 101, 111, 117, 116])) ([])
                                      else
                                        bif !S.within1 (Cf.ready c) 0 100 then
                                          k (.str (bs [114, 101, 97, 100, 121])) ([])
                                        else
                                          bif !S.within1 (Cf.subset c) 0 100 then
                                            k (.str (bs [115, 117, 98, 115, 101, 116])) ([])
                                          else
                                            bif !S.within1 (Cf.sample c) 0 100 then
                                              k (.str (bs [115, 97, 109, 112, 108, 101])) ([])
                                            else
                                              k (.str (bs [])) ([])
    else
      bif decide (Cf.burst c = -1000) then
        bif !S.within (Cf.target c) 10 1000000 then
          k (.str (bs [116, 97, 114, 103, 101, 116])) ([])
        else
          bif !S.within (Cf.util c) 100 1000 then
            k (.str (bs [117, 116, 105, 108])) ([])
          else
            bif !S.within1 (Cf.stable c) 6 600 then
              k (.str (bs [115, 116, 97, 98, 108, 101])) ([])
            else
              bif !S.within1 (Cf.panic c) 1 (Cf.stable c) then
                k (.str (bs [112, 97, 110, 105, 99])) ([])
              else
                bif !S.within1 (Cf.grain c) 1 (Cf.panic c) then
                  k (.str (bs [103, 114, 97, 105, 110])) ([])
                else
                  bif !S.within (Cf.threshold c) 1100 10000 then
                    k (.str (bs [116, 104, 114, 101, 115, 104, 111, 108, 100])) ([])
                  else
                    bif !S.within (Cf.up c) 1001 1000000 then
                      k (.str (bs [117, 112])) ([])
                    else
                      bif !S.within (Cf.down c) 1001 1000000 then
                        k (.str (bs [100, 111, 119, 110])) ([])
                      else
                        bif !S.within1 (Cf.min c) 0 100 then
                          k (.str (bs [109, 105, 110])) ([])
                        else
                          bif !S.within1 (Cf.max c) (if 1 > Cf.min c then 1 else Cf.min c) 100 then
                            k (.str (bs [109, 97, 120])) ([])
                          else
                            bif !S.within1 (Cf.initial c) 0 100 then
                              k (.str (bs [105, 110, 105, 116, 105, 97, 108])) ([])
                            else
                              bif !S.within1 (Cf.grace c) 0 600 then
                                k (.str (bs [103, 114, 97, 99, 101])) ([])
                              else
                                bif !S.within1 (Cf.delay c) 0 600 then
                                  k (.str (bs [100, 101, 108, 97, 121])) ([])
                                else
                                  bif !S.within1 (Cf.limit c) 1 1000 then
                                    k (.str (bs [108, 105, 109, 105, 116])) ([])
                                  else
                                    bif !S.within1 (Cf.queue c) 0 200 then
                                      k (.str (bs [113, 117, 101, 117, 101])) ([])
                                    else
                                      bif !S.within1 (Cf.timeout c) 1 10000 then
                                        k (.str (bs [116, 105, 109, 101, 111, 117, 116])) ([])
                                      else
                                        bif !S.within1 (Cf.ready c) 0 100 then
                                          k (.str (bs [114, 101, 97, 100, 121])) ([])
                                        else
                                          bif !S.within1 (Cf.subset c) 0 100 then
                                            k (.str (bs [115, 117, 98, 115, 101, 116])) ([])
                                          else
                                            bif !S.within1 (Cf.sample c) 0 100 then
                                              k (.str (bs [115, 97, 109, 112, 108, 101])) ([])
                                            else
                                              k (.str (bs [])) ([])
      else
        bif !S.within (Cf.target c) 10 1000000 then
          k (.str (bs [116, 97, 114, 103, 101, 116])) ([])
        else
          bif !S.within (Cf.util c) 100 1000 then
            k (.str (bs [117, 116, 105, 108])) ([])
          else
            bif !S.within1 (Cf.stable c) 6 600 then
              k (.str (bs [115, 116, 97, 98, 108, 101])) ([])
            else
              bif !S.within1 (Cf.panic c) 1 (Cf.stable c) then
                k (.str (bs [112, 97, 110, 105, 99])) ([])
              else
                bif !S.within1 (Cf.grain c) 1 (Cf.panic c) then
                  k (.str (bs [103, 114, 97, 105, 110])) ([])
                else
                  bif !S.within (Cf.threshold c) 1100 10000 then
                    k (.str (bs [116, 104, 114, 101, 115, 104, 111, 108, 100])) ([])
                  else
                    bif !S.within (Cf.up c) 1001 1000000 then
                      k (.str (bs [117, 112])) ([])
                    else
                      bif !S.within (Cf.down c) 1001 1000000 then
                        k (.str (bs [100, 111, 119, 110])) ([])
                      else
                        bif !S.within1 (Cf.min c) 0 100 then
                          k (.str (bs [109, 105, 110])) ([])
                        else
                          bif !S.within1 (Cf.max c) (if 1 > Cf.min c then 1 else Cf.min c) 100 then
                            k (.str (bs [109, 97, 120])) ([])
                          else
                            bif !S.within1 (Cf.initial c) 0 100 then
                              k (.str (bs [105, 110, 105, 116, 105, 97, 108])) ([])
                            else
                              bif !S.within1 (Cf.grace c) 0 600 then
                                k (.str (bs [103, 114, 97, 99, 101])) ([])
                              else
                                bif !S.within1 (Cf.delay c) 0 600 then
                                  k (.str (bs [100, 101, 108, 97, 121])) ([])
                                else
                                  bif !S.within (Cf.burst c) 0 100000000 then
                                    k (.str (bs [98, 117, 114, 115, 116])) ([])
                                  else
                                    bif !S.within1 (Cf.limit c) 1 1000 then
                                      k (.str (bs [108, 105, 109, 105, 116])) ([])
                                    else
                                      bif !S.within1 (Cf.queue c) 0 200 then
                                        k (.str (bs [113, 117, 101, 117, 101])) ([])
                                      else
                                        bif !S.within1 (Cf.timeout c) 1 10000 then
                                          k (.str (bs [116, 105, 109, 101, 111, 117, 116])) ([])
                                        else
                                          bif !S.within1 (Cf.ready c) 0 100 then
                                            k (.str (bs [114, 101, 97, 100, 121])) ([])
                                          else
                                            bif !S.within1 (Cf.subset c) 0 100 then
                                              k (.str (bs [115, 117, 98, 115, 101, 116])) ([])
                                            else
                                              bif !S.within1 (Cf.sample c) 0 100 then
                                                k (.str (bs [115, 97, 109, 112, 108, 101])) ([])
                                              else
                                                k (.str (bs [])) ([])) := by kernel_rfl
def S.wrong (c : Cf) : ByteArray :=
  bif !decide (Cf.max c = 0) then
    bif decide (Cf.max c = 0) then
      bif decide (Cf.burst c = -1000) then
        bif !S.within (Cf.target c) 10 1000000 then
          (bs [116, 97, 114, 103, 101, 116])
        else
          bif !S.within (Cf.util c) 100 1000 then
            (bs [117, 116, 105, 108])
          else
            bif !S.within1 (Cf.stable c) 6 600 then
              (bs [115, 116, 97, 98, 108, 101])
            else
              bif !S.within1 (Cf.panic c) 1 (Cf.stable c) then
                (bs [112, 97, 110, 105, 99])
              else
                bif !S.within1 (Cf.grain c) 1 (Cf.panic c) then
                  (bs [103, 114, 97, 105, 110])
                else
                  bif !S.within (Cf.threshold c) 1100 10000 then
                    (bs [116, 104, 114, 101, 115, 104, 111, 108, 100])
                  else
                    bif !S.within (Cf.up c) 1001 1000000 then
                      (bs [117, 112])
                    else
                      bif !S.within (Cf.down c) 1001 1000000 then
                        (bs [100, 111, 119, 110])
                      else
                        bif !S.within1 (Cf.min c) 0 100 then
                          (bs [109, 105, 110])
                        else
                          bif !S.within1 (Cf.initial c) 0 (Cf.max c) then
                            (bs [105, 110, 105, 116, 105, 97, 108])
                          else
                            bif !S.within1 (Cf.grace c) 0 600 then
                              (bs [103, 114, 97, 99, 101])
                            else
                              bif !S.within1 (Cf.delay c) 0 600 then
                                (bs [100, 101, 108, 97, 121])
                              else
                                bif !S.within1 (Cf.limit c) 1 1000 then
                                  (bs [108, 105, 109, 105, 116])
                                else
                                  bif !S.within1 (Cf.queue c) 0 200 then
                                    (bs [113, 117, 101, 117, 101])
                                  else
                                    bif !S.within1 (Cf.timeout c) 1 10000 then
                                      (bs [116, 105, 109, 101, 111, 117, 116])
                                    else
                                      bif !S.within1 (Cf.ready c) 0 100 then
                                        (bs [114, 101, 97, 100, 121])
                                      else
                                        bif !S.within1 (Cf.subset c) 0 100 then
                                          (bs [115, 117, 98, 115, 101, 116])
                                        else
                                          bif !S.within1 (Cf.sample c) 0 100 then
                                            (bs [115, 97, 109, 112, 108, 101])
                                          else
                                            (bs [])
      else
        bif !S.within (Cf.target c) 10 1000000 then
          (bs [116, 97, 114, 103, 101, 116])
        else
          bif !S.within (Cf.util c) 100 1000 then
            (bs [117, 116, 105, 108])
          else
            bif !S.within1 (Cf.stable c) 6 600 then
              (bs [115, 116, 97, 98, 108, 101])
            else
              bif !S.within1 (Cf.panic c) 1 (Cf.stable c) then
                (bs [112, 97, 110, 105, 99])
              else
                bif !S.within1 (Cf.grain c) 1 (Cf.panic c) then
                  (bs [103, 114, 97, 105, 110])
                else
                  bif !S.within (Cf.threshold c) 1100 10000 then
                    (bs [116, 104, 114, 101, 115, 104, 111, 108, 100])
                  else
                    bif !S.within (Cf.up c) 1001 1000000 then
                      (bs [117, 112])
                    else
                      bif !S.within (Cf.down c) 1001 1000000 then
                        (bs [100, 111, 119, 110])
                      else
                        bif !S.within1 (Cf.min c) 0 100 then
                          (bs [109, 105, 110])
                        else
                          bif !S.within1 (Cf.initial c) 0 (Cf.max c) then
                            (bs [105, 110, 105, 116, 105, 97, 108])
                          else
                            bif !S.within1 (Cf.grace c) 0 600 then
                              (bs [103, 114, 97, 99, 101])
                            else
                              bif !S.within1 (Cf.delay c) 0 600 then
                                (bs [100, 101, 108, 97, 121])
                              else
                                bif !S.within (Cf.burst c) 0 100000000 then
                                  (bs [98, 117, 114, 115, 116])
                                else
                                  bif !S.within1 (Cf.limit c) 1 1000 then
                                    (bs [108, 105, 109, 105, 116])
                                  else
                                    bif !S.within1 (Cf.queue c) 0 200 then
                                      (bs [113, 117, 101, 117, 101])
                                    else
                                      bif !S.within1 (Cf.timeout c) 1 10000 then
                                        (bs [116, 105, 109, 101, 111, 117, 116])
                                      else
                                        bif !S.within1 (Cf.ready c) 0 100 then
                                          (bs [114, 101, 97, 100, 121])
                                        else
                                          bif !S.within1 (Cf.subset c) 0 100 then
                                            (bs [115, 117, 98, 115, 101, 116])
                                          else
                                            bif !S.within1 (Cf.sample c) 0 100 then
                                              (bs [115, 97, 109, 112, 108, 101])
                                            else
                                              (bs [])
    else
      bif decide (Cf.burst c = -1000) then
        bif !S.within (Cf.target c) 10 1000000 then
          (bs [116, 97, 114, 103, 101, 116])
        else
          bif !S.within (Cf.util c) 100 1000 then
            (bs [117, 116, 105, 108])
          else
            bif !S.within1 (Cf.stable c) 6 600 then
              (bs [115, 116, 97, 98, 108, 101])
            else
              bif !S.within1 (Cf.panic c) 1 (Cf.stable c) then
                (bs [112, 97, 110, 105, 99])
              else
                bif !S.within1 (Cf.grain c) 1 (Cf.panic c) then
                  (bs [103, 114, 97, 105, 110])
                else
                  bif !S.within (Cf.threshold c) 1100 10000 then
                    (bs [116, 104, 114, 101, 115, 104, 111, 108, 100])
                  else
                    bif !S.within (Cf.up c) 1001 1000000 then
                      (bs [117, 112])
                    else
                      bif !S.within (Cf.down c) 1001 1000000 then
                        (bs [100, 111, 119, 110])
                      else
                        bif !S.within1 (Cf.min c) 0 100 then
                          (bs [109, 105, 110])
                        else
                          bif !S.within1 (Cf.max c) (if 1 > Cf.min c then 1 else Cf.min c) 100 then
                            (bs [109, 97, 120])
                          else
                            bif !S.within1 (Cf.initial c) 0 (Cf.max c) then
                              (bs [105, 110, 105, 116, 105, 97, 108])
                            else
                              bif !S.within1 (Cf.grace c) 0 600 then
                                (bs [103, 114, 97, 99, 101])
                              else
                                bif !S.within1 (Cf.delay c) 0 600 then
                                  (bs [100, 101, 108, 97, 121])
                                else
                                  bif !S.within1 (Cf.limit c) 1 1000 then
                                    (bs [108, 105, 109, 105, 116])
                                  else
                                    bif !S.within1 (Cf.queue c) 0 200 then
                                      (bs [113, 117, 101, 117, 101])
                                    else
                                      bif !S.within1 (Cf.timeout c) 1 10000 then
                                        (bs [116, 105, 109, 101, 111, 117, 116])
                                      else
                                        bif !S.within1 (Cf.ready c) 0 100 then
                                          (bs [114, 101, 97, 100, 121])
                                        else
                                          bif !S.within1 (Cf.subset c) 0 100 then
                                            (bs [115, 117, 98, 115, 101, 116])
                                          else
                                            bif !S.within1 (Cf.sample c) 0 100 then
                                              (bs [115, 97, 109, 112, 108, 101])
                                            else
                                              (bs [])
      else
        bif !S.within (Cf.target c) 10 1000000 then
          (bs [116, 97, 114, 103, 101, 116])
        else
          bif !S.within (Cf.util c) 100 1000 then
            (bs [117, 116, 105, 108])
          else
            bif !S.within1 (Cf.stable c) 6 600 then
              (bs [115, 116, 97, 98, 108, 101])
            else
              bif !S.within1 (Cf.panic c) 1 (Cf.stable c) then
                (bs [112, 97, 110, 105, 99])
              else
                bif !S.within1 (Cf.grain c) 1 (Cf.panic c) then
                  (bs [103, 114, 97, 105, 110])
                else
                  bif !S.within (Cf.threshold c) 1100 10000 then
                    (bs [116, 104, 114, 101, 115, 104, 111, 108, 100])
                  else
                    bif !S.within (Cf.up c) 1001 1000000 then
                      (bs [117, 112])
                    else
                      bif !S.within (Cf.down c) 1001 1000000 then
                        (bs [100, 111, 119, 110])
                      else
                        bif !S.within1 (Cf.min c) 0 100 then
                          (bs [109, 105, 110])
                        else
                          bif !S.within1 (Cf.max c) (if 1 > Cf.min c then 1 else Cf.min c) 100 then
                            (bs [109, 97, 120])
                          else
                            bif !S.within1 (Cf.initial c) 0 (Cf.max c) then
                              (bs [105, 110, 105, 116, 105, 97, 108])
                            else
                              bif !S.within1 (Cf.grace c) 0 600 then
                                (bs [103, 114, 97, 99, 101])
                              else
                                bif !S.within1 (Cf.delay c) 0 600 then
                                  (bs [100, 101, 108, 97, 121])
                                else
                                  bif !S.within (Cf.burst c) 0 100000000 then
                                    (bs [98, 117, 114, 115, 116])
                                  else
                                    bif !S.within1 (Cf.limit c) 1 1000 then
                                      (bs [108, 105, 109, 105, 116])
                                    else
                                      bif !S.within1 (Cf.queue c) 0 200 then
                                        (bs [113, 117, 101, 117, 101])
                                      else
                                        bif !S.within1 (Cf.timeout c) 1 10000 then
                                          (bs [116, 105, 109, 101, 111, 117, 116])
                                        else
                                          bif !S.within1 (Cf.ready c) 0 100 then
                                            (bs [114, 101, 97, 100, 121])
                                          else
                                            bif !S.within1 (Cf.subset c) 0 100 then
                                              (bs [115, 117, 98, 115, 101, 116])
                                            else
                                              bif !S.within1 (Cf.sample c) 0 100 then
                                                (bs [115, 97, 109, 112, 108, 101])
                                              else
                                                (bs [])
  else
    bif decide (Cf.max c = 0) then
      bif decide (Cf.burst c = -1000) then
        bif !S.within (Cf.target c) 10 1000000 then
          (bs [116, 97, 114, 103, 101, 116])
        else
          bif !S.within (Cf.util c) 100 1000 then
            (bs [117, 116, 105, 108])
          else
            bif !S.within1 (Cf.stable c) 6 600 then
              (bs [115, 116, 97, 98, 108, 101])
            else
              bif !S.within1 (Cf.panic c) 1 (Cf.stable c) then
                (bs [112, 97, 110, 105, 99])
              else
                bif !S.within1 (Cf.grain c) 1 (Cf.panic c) then
                  (bs [103, 114, 97, 105, 110])
                else
                  bif !S.within (Cf.threshold c) 1100 10000 then
                    (bs [116, 104, 114, 101, 115, 104, 111, 108, 100])
                  else
                    bif !S.within (Cf.up c) 1001 1000000 then
                      (bs [117, 112])
                    else
                      bif !S.within (Cf.down c) 1001 1000000 then
                        (bs [100, 111, 119, 110])
                      else
                        bif !S.within1 (Cf.min c) 0 100 then
                          (bs [109, 105, 110])
                        else
                          bif !S.within1 (Cf.initial c) 0 100 then
                            (bs [105, 110, 105, 116, 105, 97, 108])
                          else
                            bif !S.within1 (Cf.grace c) 0 600 then
                              (bs [103, 114, 97, 99, 101])
                            else
                              bif !S.within1 (Cf.delay c) 0 600 then
                                (bs [100, 101, 108, 97, 121])
                              else
                                bif !S.within1 (Cf.limit c) 1 1000 then
                                  (bs [108, 105, 109, 105, 116])
                                else
                                  bif !S.within1 (Cf.queue c) 0 200 then
                                    (bs [113, 117, 101, 117, 101])
                                  else
                                    bif !S.within1 (Cf.timeout c) 1 10000 then
                                      (bs [116, 105, 109, 101, 111, 117, 116])
                                    else
                                      bif !S.within1 (Cf.ready c) 0 100 then
                                        (bs [114, 101, 97, 100, 121])
                                      else
                                        bif !S.within1 (Cf.subset c) 0 100 then
                                          (bs [115, 117, 98, 115, 101, 116])
                                        else
                                          bif !S.within1 (Cf.sample c) 0 100 then
                                            (bs [115, 97, 109, 112, 108, 101])
                                          else
                                            (bs [])
      else
        bif !S.within (Cf.target c) 10 1000000 then
          (bs [116, 97, 114, 103, 101, 116])
        else
          bif !S.within (Cf.util c) 100 1000 then
            (bs [117, 116, 105, 108])
          else
            bif !S.within1 (Cf.stable c) 6 600 then
              (bs [115, 116, 97, 98, 108, 101])
            else
              bif !S.within1 (Cf.panic c) 1 (Cf.stable c) then
                (bs [112, 97, 110, 105, 99])
              else
                bif !S.within1 (Cf.grain c) 1 (Cf.panic c) then
                  (bs [103, 114, 97, 105, 110])
                else
                  bif !S.within (Cf.threshold c) 1100 10000 then
                    (bs [116, 104, 114, 101, 115, 104, 111, 108, 100])
                  else
                    bif !S.within (Cf.up c) 1001 1000000 then
                      (bs [117, 112])
                    else
                      bif !S.within (Cf.down c) 1001 1000000 then
                        (bs [100, 111, 119, 110])
                      else
                        bif !S.within1 (Cf.min c) 0 100 then
                          (bs [109, 105, 110])
                        else
                          bif !S.within1 (Cf.initial c) 0 100 then
                            (bs [105, 110, 105, 116, 105, 97, 108])
                          else
                            bif !S.within1 (Cf.grace c) 0 600 then
                              (bs [103, 114, 97, 99, 101])
                            else
                              bif !S.within1 (Cf.delay c) 0 600 then
                                (bs [100, 101, 108, 97, 121])
                              else
                                bif !S.within (Cf.burst c) 0 100000000 then
                                  (bs [98, 117, 114, 115, 116])
                                else
                                  bif !S.within1 (Cf.limit c) 1 1000 then
                                    (bs [108, 105, 109, 105, 116])
                                  else
                                    bif !S.within1 (Cf.queue c) 0 200 then
                                      (bs [113, 117, 101, 117, 101])
                                    else
                                      bif !S.within1 (Cf.timeout c) 1 10000 then
                                        (bs [116, 105, 109, 101, 111, 117, 116])
                                      else
                                        bif !S.within1 (Cf.ready c) 0 100 then
                                          (bs [114, 101, 97, 100, 121])
                                        else
                                          bif !S.within1 (Cf.subset c) 0 100 then
                                            (bs [115, 117, 98, 115, 101, 116])
                                          else
                                            bif !S.within1 (Cf.sample c) 0 100 then
                                              (bs [115, 97, 109, 112, 108, 101])
                                            else
                                              (bs [])
    else
      bif decide (Cf.burst c = -1000) then
        bif !S.within (Cf.target c) 10 1000000 then
          (bs [116, 97, 114, 103, 101, 116])
        else
          bif !S.within (Cf.util c) 100 1000 then
            (bs [117, 116, 105, 108])
          else
            bif !S.within1 (Cf.stable c) 6 600 then
              (bs [115, 116, 97, 98, 108, 101])
            else
              bif !S.within1 (Cf.panic c) 1 (Cf.stable c) then
                (bs [112, 97, 110, 105, 99])
              else
                bif !S.within1 (Cf.grain c) 1 (Cf.panic c) then
                  (bs [103, 114, 97, 105, 110])
                else
                  bif !S.within (Cf.threshold c) 1100 10000 then
                    (bs [116, 104, 114, 101, 115, 104, 111, 108, 100])
                  else
                    bif !S.within (Cf.up c) 1001 1000000 then
                      (bs [117, 112])
                    else
                      bif !S.within (Cf.down c) 1001 1000000 then
                        (bs [100, 111, 119, 110])
                      else
                        bif !S.within1 (Cf.min c) 0 100 then
                          (bs [109, 105, 110])
                        else
                          bif !S.within1 (Cf.max c) (if 1 > Cf.min c then 1 else Cf.min c) 100 then
                            (bs [109, 97, 120])
                          else
                            bif !S.within1 (Cf.initial c) 0 100 then
                              (bs [105, 110, 105, 116, 105, 97, 108])
                            else
                              bif !S.within1 (Cf.grace c) 0 600 then
                                (bs [103, 114, 97, 99, 101])
                              else
                                bif !S.within1 (Cf.delay c) 0 600 then
                                  (bs [100, 101, 108, 97, 121])
                                else
                                  bif !S.within1 (Cf.limit c) 1 1000 then
                                    (bs [108, 105, 109, 105, 116])
                                  else
                                    bif !S.within1 (Cf.queue c) 0 200 then
                                      (bs [113, 117, 101, 117, 101])
                                    else
                                      bif !S.within1 (Cf.timeout c) 1 10000 then
                                        (bs [116, 105, 109, 101, 111, 117, 116])
                                      else
                                        bif !S.within1 (Cf.ready c) 0 100 then
                                          (bs [114, 101, 97, 100, 121])
                                        else
                                          bif !S.within1 (Cf.subset c) 0 100 then
                                            (bs [115, 117, 98, 115, 101, 116])
                                          else
                                            bif !S.within1 (Cf.sample c) 0 100 then
                                              (bs [115, 97, 109, 112, 108, 101])
                                            else
                                              (bs [])
      else
        bif !S.within (Cf.target c) 10 1000000 then
          (bs [116, 97, 114, 103, 101, 116])
        else
          bif !S.within (Cf.util c) 100 1000 then
            (bs [117, 116, 105, 108])
          else
            bif !S.within1 (Cf.stable c) 6 600 then
              (bs [115, 116, 97, 98, 108, 101])
            else
              bif !S.within1 (Cf.panic c) 1 (Cf.stable c) then
                (bs [112, 97, 110, 105, 99])
              else
                bif !S.within1 (Cf.grain c) 1 (Cf.panic c) then
                  (bs [103, 114, 97, 105, 110])
                else
                  bif !S.within (Cf.threshold c) 1100 10000 then
                    (bs [116, 104, 114, 101, 115, 104, 111, 108, 100])
                  else
                    bif !S.within (Cf.up c) 1001 1000000 then
                      (bs [117, 112])
                    else
                      bif !S.within (Cf.down c) 1001 1000000 then
                        (bs [100, 111, 119, 110])
                      else
                        bif !S.within1 (Cf.min c) 0 100 then
                          (bs [109, 105, 110])
                        else
                          bif !S.within1 (Cf.max c) (if 1 > Cf.min c then 1 else Cf.min c) 100 then
                            (bs [109, 97, 120])
                          else
                            bif !S.within1 (Cf.initial c) 0 100 then
                              (bs [105, 110, 105, 116, 105, 97, 108])
                            else
                              bif !S.within1 (Cf.grace c) 0 600 then
                                (bs [103, 114, 97, 99, 101])
                              else
                                bif !S.within1 (Cf.delay c) 0 600 then
                                  (bs [100, 101, 108, 97, 121])
                                else
                                  bif !S.within (Cf.burst c) 0 100000000 then
                                    (bs [98, 117, 114, 115, 116])
                                  else
                                    bif !S.within1 (Cf.limit c) 1 1000 then
                                      (bs [108, 105, 109, 105, 116])
                                    else
                                      bif !S.within1 (Cf.queue c) 0 200 then
                                        (bs [113, 117, 101, 117, 101])
                                      else
                                        bif !S.within1 (Cf.timeout c) 1 10000 then
                                          (bs [116, 105, 109, 101, 111, 117, 116])
                                        else
                                          bif !S.within1 (Cf.ready c) 0 100 then
                                            (bs [114, 101, 97, 100, 121])
                                          else
                                            bif !S.within1 (Cf.subset c) 0 100 then
                                              (bs [115, 117, 98, 115, 101, 116])
                                            else
                                              bif !S.within1 (Cf.sample c) 0 100 then
                                                (bs [115, 97, 109, 112, 108, 101])
                                              else
                                                (bs [])
theorem S.wrong_v {R : Type} (c : Cf) (k : AVal → List Blk → Option R) : fnEval tis F66 40 G68 Try.f66 [.agg (cfA c)] [] k = k (.str (S.wrong c)) [] :=
  (S.wrong_k c k).trans (bif_lift (f := (fun v : ByteArray => k (.str v) [])) (bif_lift (f := (fun v : ByteArray => k (.str v) [])) (bif_lift (f := (fun v : ByteArray => k (.str v) [])) (bif_lift (f := (fun v : ByteArray => k (.str v) [])) rfl (bif_lift (f := (fun v : ByteArray => k (.str v) [])) rfl (bif_lift (f := (fun v : ByteArray => k (.str v) [])) rfl (bif_lift (f := (fun v : ByteArray => k (.str v) [])) rfl (bif_lift (f := (fun v : ByteArray => k (.str v) [])) rfl (bif_lift (f := (fun v : ByteArray => k (.str v) [])) rfl (bif_lift (f := (fun v : ByteArray => k (.str v) [])) rfl (bif_lift (f := (fun v : ByteArray => k (.str v) [])) rfl (bif_lift (f := (fun v : ByteArray => k (.str v) [])) rfl (bif_lift (f := (fun v : ByteArray => k (.str v) [])) rfl (bif_lift (f := (fun v : ByteArray => k (.str v) [])) rfl (bif_lift (f := (fun v : ByteArray => k (.str v) [])) rfl (bif_lift (f := (fun v : ByteArray => k (.str v) [])) rfl (bif_lift (f := (fun v : ByteArray => k (.str v) [])) rfl (bif_lift (f := (fun v : ByteArray => k (.str v) [])) rfl (bif_lift (f := (fun v : ByteArray => k (.str v) [])) rfl (bif_lift (f := (fun v : ByteArray => k (.str v) [])) rfl (bif_lift (f := (fun v : ByteArray => k (.str v) [])) rfl rfl)))))))))))))))))) (bif_lift (f := (fun v : ByteArray => k (.str v) [])) rfl (bif_lift (f := (fun v : ByteArray => k (.str v) [])) rfl (bif_lift (f := (fun v : ByteArray => k (.str v) [])) rfl (bif_lift (f := (fun v : ByteArray => k (.str v) [])) rfl (bif_lift (f := (fun v : ByteArray => k (.str v) [])) rfl (bif_lift (f := (fun v : ByteArray => k (.str v) [])) rfl (bif_lift (f := (fun v : ByteArray => k (.str v) [])) rfl (bif_lift (f := (fun v : ByteArray => k (.str v) [])) rfl (bif_lift (f := (fun v : ByteArray => k (.str v) [])) rfl (bif_lift (f := (fun v : ByteArray => k (.str v) [])) rfl (bif_lift (f := (fun v : ByteArray => k (.str v) [])) rfl (bif_lift (f := (fun v : ByteArray => k (.str v) [])) rfl (bif_lift (f := (fun v : ByteArray => k (.str v) [])) rfl (bif_lift (f := (fun v : ByteArray => k (.str v) [])) rfl (bif_lift (f := (fun v : ByteArray => k (.str v) [])) rfl (bif_lift (f := (fun v : ByteArray => k (.str v) [])) rfl (bif_lift (f := (fun v : ByteArray => k (.str v) [])) rfl (bif_lift (f := (fun v : ByteArray => k (.str v) [])) rfl (bif_lift (f := (fun v : ByteArray => k (.str v) [])) rfl rfl)))))))))))))))))))) (bif_lift (f := (fun v : ByteArray => k (.str v) [])) (bif_lift (f := (fun v : ByteArray => k (.str v) [])) rfl (bif_lift (f := (fun v : ByteArray => k (.str v) [])) rfl (bif_lift (f := (fun v : ByteArray => k (.str v) [])) rfl (bif_lift (f := (fun v : ByteArray => k (.str v) [])) rfl (bif_lift (f := (fun v : ByteArray => k (.str v) [])) rfl (bif_lift (f := (fun v : ByteArray => k (.str v) [])) rfl (bif_lift (f := (fun v : ByteArray => k (.str v) [])) rfl (bif_lift (f := (fun v : ByteArray => k (.str v) [])) rfl (bif_lift (f := (fun v : ByteArray => k (.str v) [])) rfl (bif_lift (f := (fun v : ByteArray => k (.str v) [])) rfl (bif_lift (f := (fun v : ByteArray => k (.str v) [])) rfl (bif_lift (f := (fun v : ByteArray => k (.str v) [])) rfl (bif_lift (f := (fun v : ByteArray => k (.str v) [])) rfl (bif_lift (f := (fun v : ByteArray => k (.str v) [])) rfl (bif_lift (f := (fun v : ByteArray => k (.str v) [])) rfl (bif_lift (f := (fun v : ByteArray => k (.str v) [])) rfl (bif_lift (f := (fun v : ByteArray => k (.str v) [])) rfl (bif_lift (f := (fun v : ByteArray => k (.str v) [])) rfl (bif_lift (f := (fun v : ByteArray => k (.str v) [])) rfl rfl))))))))))))))))))) (bif_lift (f := (fun v : ByteArray => k (.str v) [])) rfl (bif_lift (f := (fun v : ByteArray => k (.str v) [])) rfl (bif_lift (f := (fun v : ByteArray => k (.str v) [])) rfl (bif_lift (f := (fun v : ByteArray => k (.str v) [])) rfl (bif_lift (f := (fun v : ByteArray => k (.str v) [])) rfl (bif_lift (f := (fun v : ByteArray => k (.str v) [])) rfl (bif_lift (f := (fun v : ByteArray => k (.str v) [])) rfl (bif_lift (f := (fun v : ByteArray => k (.str v) [])) rfl (bif_lift (f := (fun v : ByteArray => k (.str v) [])) rfl (bif_lift (f := (fun v : ByteArray => k (.str v) [])) rfl (bif_lift (f := (fun v : ByteArray => k (.str v) [])) rfl (bif_lift (f := (fun v : ByteArray => k (.str v) [])) rfl (bif_lift (f := (fun v : ByteArray => k (.str v) [])) rfl (bif_lift (f := (fun v : ByteArray => k (.str v) [])) rfl (bif_lift (f := (fun v : ByteArray => k (.str v) [])) rfl (bif_lift (f := (fun v : ByteArray => k (.str v) [])) rfl (bif_lift (f := (fun v : ByteArray => k (.str v) [])) rfl (bif_lift (f := (fun v : ByteArray => k (.str v) [])) rfl (bif_lift (f := (fun v : ByteArray => k (.str v) [])) rfl (bif_lift (f := (fun v : ByteArray => k (.str v) [])) rfl rfl)))))))))))))))))))))) (bif_lift (f := (fun v : ByteArray => k (.str v) [])) (bif_lift (f := (fun v : ByteArray => k (.str v) [])) (bif_lift (f := (fun v : ByteArray => k (.str v) [])) rfl (bif_lift (f := (fun v : ByteArray => k (.str v) [])) rfl (bif_lift (f := (fun v : ByteArray => k (.str v) [])) rfl (bif_lift (f := (fun v : ByteArray => k (.str v) [])) rfl (bif_lift (f := (fun v : ByteArray => k (.str v) [])) rfl (bif_lift (f := (fun v : ByteArray => k (.str v) [])) rfl (bif_lift (f := (fun v : ByteArray => k (.str v) [])) rfl (bif_lift (f := (fun v : ByteArray => k (.str v) [])) rfl (bif_lift (f := (fun v : ByteArray => k (.str v) [])) rfl (bif_lift (f := (fun v : ByteArray => k (.str v) [])) rfl (bif_lift (f := (fun v : ByteArray => k (.str v) [])) rfl (bif_lift (f := (fun v : ByteArray => k (.str v) [])) rfl (bif_lift (f := (fun v : ByteArray => k (.str v) [])) rfl (bif_lift (f := (fun v : ByteArray => k (.str v) [])) rfl (bif_lift (f := (fun v : ByteArray => k (.str v) [])) rfl (bif_lift (f := (fun v : ByteArray => k (.str v) [])) rfl (bif_lift (f := (fun v : ByteArray => k (.str v) [])) rfl (bif_lift (f := (fun v : ByteArray => k (.str v) [])) rfl rfl)))))))))))))))))) (bif_lift (f := (fun v : ByteArray => k (.str v) [])) rfl (bif_lift (f := (fun v : ByteArray => k (.str v) [])) rfl (bif_lift (f := (fun v : ByteArray => k (.str v) [])) rfl (bif_lift (f := (fun v : ByteArray => k (.str v) [])) rfl (bif_lift (f := (fun v : ByteArray => k (.str v) [])) rfl (bif_lift (f := (fun v : ByteArray => k (.str v) [])) rfl (bif_lift (f := (fun v : ByteArray => k (.str v) [])) rfl (bif_lift (f := (fun v : ByteArray => k (.str v) [])) rfl (bif_lift (f := (fun v : ByteArray => k (.str v) [])) rfl (bif_lift (f := (fun v : ByteArray => k (.str v) [])) rfl (bif_lift (f := (fun v : ByteArray => k (.str v) [])) rfl (bif_lift (f := (fun v : ByteArray => k (.str v) [])) rfl (bif_lift (f := (fun v : ByteArray => k (.str v) [])) rfl (bif_lift (f := (fun v : ByteArray => k (.str v) [])) rfl (bif_lift (f := (fun v : ByteArray => k (.str v) [])) rfl (bif_lift (f := (fun v : ByteArray => k (.str v) [])) rfl (bif_lift (f := (fun v : ByteArray => k (.str v) [])) rfl (bif_lift (f := (fun v : ByteArray => k (.str v) [])) rfl (bif_lift (f := (fun v : ByteArray => k (.str v) [])) rfl rfl)))))))))))))))))))) (bif_lift (f := (fun v : ByteArray => k (.str v) [])) (bif_lift (f := (fun v : ByteArray => k (.str v) [])) rfl (bif_lift (f := (fun v : ByteArray => k (.str v) [])) rfl (bif_lift (f := (fun v : ByteArray => k (.str v) [])) rfl (bif_lift (f := (fun v : ByteArray => k (.str v) [])) rfl (bif_lift (f := (fun v : ByteArray => k (.str v) [])) rfl (bif_lift (f := (fun v : ByteArray => k (.str v) [])) rfl (bif_lift (f := (fun v : ByteArray => k (.str v) [])) rfl (bif_lift (f := (fun v : ByteArray => k (.str v) [])) rfl (bif_lift (f := (fun v : ByteArray => k (.str v) [])) rfl (bif_lift (f := (fun v : ByteArray => k (.str v) [])) rfl (bif_lift (f := (fun v : ByteArray => k (.str v) [])) rfl (bif_lift (f := (fun v : ByteArray => k (.str v) [])) rfl (bif_lift (f := (fun v : ByteArray => k (.str v) [])) rfl (bif_lift (f := (fun v : ByteArray => k (.str v) [])) rfl (bif_lift (f := (fun v : ByteArray => k (.str v) [])) rfl (bif_lift (f := (fun v : ByteArray => k (.str v) [])) rfl (bif_lift (f := (fun v : ByteArray => k (.str v) [])) rfl (bif_lift (f := (fun v : ByteArray => k (.str v) [])) rfl (bif_lift (f := (fun v : ByteArray => k (.str v) [])) rfl rfl))))))))))))))))))) (bif_lift (f := (fun v : ByteArray => k (.str v) [])) rfl (bif_lift (f := (fun v : ByteArray => k (.str v) [])) rfl (bif_lift (f := (fun v : ByteArray => k (.str v) [])) rfl (bif_lift (f := (fun v : ByteArray => k (.str v) [])) rfl (bif_lift (f := (fun v : ByteArray => k (.str v) [])) rfl (bif_lift (f := (fun v : ByteArray => k (.str v) [])) rfl (bif_lift (f := (fun v : ByteArray => k (.str v) [])) rfl (bif_lift (f := (fun v : ByteArray => k (.str v) [])) rfl (bif_lift (f := (fun v : ByteArray => k (.str v) [])) rfl (bif_lift (f := (fun v : ByteArray => k (.str v) [])) rfl (bif_lift (f := (fun v : ByteArray => k (.str v) [])) rfl (bif_lift (f := (fun v : ByteArray => k (.str v) [])) rfl (bif_lift (f := (fun v : ByteArray => k (.str v) [])) rfl (bif_lift (f := (fun v : ByteArray => k (.str v) [])) rfl (bif_lift (f := (fun v : ByteArray => k (.str v) [])) rfl (bif_lift (f := (fun v : ByteArray => k (.str v) [])) rfl (bif_lift (f := (fun v : ByteArray => k (.str v) [])) rfl (bif_lift (f := (fun v : ByteArray => k (.str v) [])) rfl (bif_lift (f := (fun v : ByteArray => k (.str v) [])) rfl (bif_lift (f := (fun v : ByteArray => k (.str v) [])) rfl rfl)))))))))))))))))))))))
def H66 : Hnd := fun R args σ k => match args, σ with
  | [.agg [.int .i64 target_, .int .i64 util_, .int .i64 stable_, .int .i64 panic_, .int .i64 grain_, .int .i64 threshold_, .int .i64 up_, .int .i64 down_, .int .i64 min_, .int .i64 max_, .int .i64 initial_, .int .i64 grace_, .int .i64 delay_, .int .i64 burst_, .int .i64 limit_, .int .i64 queue_, .int .i64 timeout_, .int .i64 ready_, .int .i64 subset_, .int .i64 sample_]], [] => k (.str (S.wrong ⟨target_, util_, stable_, panic_, grain_, threshold_, up_, down_, min_, max_, initial_, grace_, delay_, burst_, limit_, queue_, timeout_, ready_, subset_, sample_⟩)) []
  | _, _ => none
theorem H66_ok : HndOk Try.prog 66 H66 := hnd_ok tis tisOk mixOk G68_ok F66 Try.func66 rfl (by
  intro R args σ k r h
  unfold H66 at h
  split at h
  · rename_i target_ util_ stable_ panic_ grain_ threshold_ up_ down_ min_ max_ initial_ grace_ delay_ burst_ limit_ queue_ timeout_ ready_ subset_ sample_; exact ⟨40, (S.wrong_v ⟨target_, util_, stable_, panic_, grain_, threshold_, up_, down_, min_, max_, initial_, grace_, delay_, burst_, limit_, queue_, timeout_, ready_, subset_, sample_⟩ _).trans h⟩
  · cases h)
def G66 : Env := Env.add 66 H66 G68
theorem G66_ok : EnvOk Try.prog G66 := envAdd_ok H66_ok G68_ok

/-! conf.May -/
def F57 : FCfg := ⟨keepAt [(0, [1, 3, 4, 5]), (1, [2])], loopAt [], []⟩
theorem S.may_k {R : Type} (c : Cf) (k : AVal → List Blk → Option R) : fnEval tis F57 0 G66 Try.f57 [.agg (cfA c)] [] k =
  (k (.bool (Array.toList (ByteArray.data (S.wrong (Cf.mk (Cf.target c) (Cf.util c) (Cf.stable c) (Cf.panic c) (Cf.grain c) (Cf.threshold c) (Cf.up c) (Cf.down c) (Cf.min c) (Cf.max c) (Cf.initial c) (Cf.grace c) (Cf.delay c) (Cf.burst c) (Cf.limit c) (Cf.queue c) (Cf.timeout c) (Cf.ready c) (Cf.subset c) (Cf.sample c)))) == Array.toList (ByteArray.data (bs [])))) ([])) := by kernel_rfl
def S.may (c : Cf) : Bool :=
  (Array.toList (ByteArray.data (S.wrong (Cf.mk (Cf.target c) (Cf.util c) (Cf.stable c) (Cf.panic c) (Cf.grain c) (Cf.threshold c) (Cf.up c) (Cf.down c) (Cf.min c) (Cf.max c) (Cf.initial c) (Cf.grace c) (Cf.delay c) (Cf.burst c) (Cf.limit c) (Cf.queue c) (Cf.timeout c) (Cf.ready c) (Cf.subset c) (Cf.sample c)))) == Array.toList (ByteArray.data (bs [])))
theorem S.may_v {R : Type} (c : Cf) (k : AVal → List Blk → Option R) : fnEval tis F57 0 G66 Try.f57 [.agg (cfA c)] [] k = k (.bool (S.may c)) [] :=
  (S.may_k c k).trans rfl
def H57 : Hnd := fun R args σ k => match args, σ with
  | [.agg [.int .i64 target_, .int .i64 util_, .int .i64 stable_, .int .i64 panic_, .int .i64 grain_, .int .i64 threshold_, .int .i64 up_, .int .i64 down_, .int .i64 min_, .int .i64 max_, .int .i64 initial_, .int .i64 grace_, .int .i64 delay_, .int .i64 burst_, .int .i64 limit_, .int .i64 queue_, .int .i64 timeout_, .int .i64 ready_, .int .i64 subset_, .int .i64 sample_]], [] => k (.bool (S.may ⟨target_, util_, stable_, panic_, grain_, threshold_, up_, down_, min_, max_, initial_, grace_, delay_, burst_, limit_, queue_, timeout_, ready_, subset_, sample_⟩)) []
  | _, _ => none
theorem H57_ok : HndOk Try.prog 57 H57 := hnd_ok tis tisOk mixOk G66_ok F57 Try.func57 rfl (by
  intro R args σ k r h
  unfold H57 at h
  split at h
  · rename_i target_ util_ stable_ panic_ grain_ threshold_ up_ down_ min_ max_ initial_ grace_ delay_ burst_ limit_ queue_ timeout_ ready_ subset_ sample_; exact ⟨0, (S.may_v ⟨target_, util_, stable_, panic_, grain_, threshold_, up_, down_, min_, max_, initial_, grace_, delay_, burst_, limit_, queue_, timeout_, ready_, subset_, sample_⟩ _).trans h⟩
  · cases h)
def G57 : Env := Env.add 57 H57 G66
theorem G57_ok : EnvOk Try.prog G57 := envAdd_ok H57_ok G66_ok
end Go.Proofs.Ytfoaihjkmfhaoaa.AB
