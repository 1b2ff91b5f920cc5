/- The functions of the settings, as plain functions. -/
import Derived.Test.YtjbdlnomjkhhbaaSrmilli
namespace Go.Proofs.Ytjbdlnomjkhhbaa.AB
set_option linter.unusedVariables false

/-- settings -/
structure Cf where
  target : Int
  util : Int
  stable : Int
  panic : Int
  grain : Int
  threshold : Int
  up : Int
  down : Int
  min : Int
  max : Int
  initial : Int
  grace : Int
  delay : Int
  burst : Int
  limit : Int
  queue : Int
  timeout : Int
  ready : Int
  subset : Int
  sample : Int
def cfA (c : Cf) : List AVal := [.int .i64 c.target, .int .i64 c.util, .int .i64 c.stable, .int .i64 c.panic, .int .i64 c.grain, .int .i64 c.threshold, .int .i64 c.up, .int .i64 c.down, .int .i64 c.min, .int .i64 c.max, .int .i64 c.initial, .int .i64 c.grace, .int .i64 c.delay, .int .i64 c.burst, .int .i64 c.limit, .int .i64 c.queue, .int .i64 c.timeout, .int .i64 c.ready, .int .i64 c.subset, .int .i64 c.sample]

/-! conf.within -/
def F50 : FCfg := ⟨keepAt [(0, [0, 1, 2]), (1, [0, 1, 2, 7, 8]), (2, [0, 1, 2, 7, 16]), (3, [6]), (4, [1, 2, 9, 10]), (5, [6])], loopAt [], []⟩
theorem S.within_k {R : Type} (n lo hi : Int) (k : AVal → List Blk → Option R) : fnEval tis F50 0 G27 Try.f50 [.iface 2 (.int .i64 n), .int .i64 lo, .int .i64 hi] [] k =
  (bif decide (lo ≤ n) then
    k (.bool (decide (n ≤ hi))) ([])
  else
    k (.bool false) ([])) := by kernel_rfl
noncomputable def S.within (n lo hi : Int) : Bool :=
  bif decide (lo ≤ n) then
    (decide (n ≤ hi))
  else
    (false)
theorem S.within_v {R : Type} (n lo hi : Int) (k : AVal → List Blk → Option R) : fnEval tis F50 0 G27 Try.f50 [.iface 2 (.int .i64 n), .int .i64 lo, .int .i64 hi] [] k = k (.bool (S.within n lo hi)) [] :=
  (S.within_k n lo hi k).trans (bif_lift (f := (fun v : Bool => k (.bool v) [])) rfl rfl)
theorem S.within1_k {R : Type} (n lo hi : Int) (k : AVal → List Blk → Option R) : fnEval tis F50 0 G27 Try.f50 [.iface 3 (.int .i64 n), .int .i64 lo, .int .i64 hi] [] k =
  (bif decide (lo ≤ n) then
    k (.bool (decide (n ≤ hi))) ([])
  else
    k (.bool false) ([])) := by kernel_rfl
noncomputable def S.within1 (n lo hi : Int) : Bool :=
  bif decide (lo ≤ n) then
    (decide (n ≤ hi))
  else
    (false)
theorem S.within1_v {R : Type} (n lo hi : Int) (k : AVal → List Blk → Option R) : fnEval tis F50 0 G27 Try.f50 [.iface 3 (.int .i64 n), .int .i64 lo, .int .i64 hi] [] k = k (.bool (S.within1 n lo hi)) [] :=
  (S.within1_k n lo hi k).trans (bif_lift (f := (fun v : Bool => k (.bool v) [])) rfl rfl)
noncomputable def H50 : Hnd := fun R args σ k => match args, σ with
  | [.iface 2 (.int .i64 n), .int .i64 lo, .int .i64 hi], [] => k (.bool (S.within n lo hi)) []
  | [.iface 3 (.int .i64 n), .int .i64 lo, .int .i64 hi], [] => k (.bool (S.within1 n lo hi)) []
  | _, _ => none
theorem H50_ok : HndOk Try.prog 50 H50 := hnd_ok tis tisOk mixOk G27_ok F50 Try.func50 rfl (by
  intro R args σ k r h
  unfold H50 at h
  split at h
  · rename_i n lo hi; exact ⟨0, (S.within_v n lo hi _).trans h⟩
  · rename_i n lo hi; exact ⟨0, (S.within1_v n lo hi _).trans h⟩
  · cases h)
noncomputable def G50 : Env := Env.add 50 H50 G27
theorem G50_ok : EnvOk Try.prog G50 := envAdd_ok H50_ok G27_ok

/-! conf.Wrong -/
def F33 : FCfg := ⟨keepAt [(0, [1]), (1, [1, 3]), (2, [1, 3, 8]), (3, [1, 3]), (4, [129, 130, 131]), (5, [129, 130, 131, 132]), (6, [5, 129, 130, 131]), (7, [5, 129, 130, 131, 137]), (8, [2]), (9, [129, 130, 131]), (10, [2])], loopAt [(5, [129, 130, 131], [])], []⟩
theorem S.wrong_k {R : Type} (c : Cf) (k : AVal → List Blk → Option R) : fnEval tis F33 40 G50 Try.f33 [.agg (cfA c)] [] k =
  (bif !decide (Cf.max c = 0) then
    bif decide (Cf.max c = 0) then
      bif decide (Cf.burst c = -1000) then
        bif !S.within (Cf.target c) 10 1000000 then
          k (.str (bs [116, 97, 114, 103, 101, 116])) ([])
        else
          bif !S.within (Cf.util c) 100 1000 then
            k (.str (bs [117, 116, 105, 108])) ([])
          else
            bif !S.within1 (Cf.stable c) 6 600 then
              k (.str (bs [115, 116, 97, 98, 108, 101])) ([])
            else
              bif !S.within1 (Cf.panic c) 1 (Cf.stable c) then
                k (.str (bs [112, 97, 110, 105, 99])) ([])
              else
                bif !S.within1 (Cf.grain c) 1 (Cf.panic c) then
                  k (.str (bs [103, 114, 97, 105, 110])) ([])
                else
                  bif !S.within (Cf.threshold c) 1100 10000 then
                    k (.str (bs [116, 104, 114, 101, 115, 104, 111, 108, 100])) ([])
                  else
                    bif !S.within (Cf.up c) 1001 1000000 then
                      k (.str (bs [117, 112])) ([])
                    else
                      bif !S.within (Cf.down c) 1001 1000000 then
                        k (.str (bs [100, 111, 119, 110])) ([])
                      else
                        bif !S.within1 (Cf.min c) 0 100 then
                          k (.str (bs [109, 105, 110])) ([])
                        else
                          bif !S.within1 (Cf.initial c) 0 (Cf.max c) then
                            k (.str (bs [105, 110, 105, 116, 105, 97, 108])) ([])
                          else
                            bif !S.within1 (Cf.grace c) 0 600 then
                              k (.str (bs [103, 114, 97, 99, 101])) ([])
                            else
                              bif !S.within1 (Cf.delay c) 0 600 then
                                k (.str (bs [100, 101, 108, 97, 121])) ([])
                              else
                                bif !S.within1 (Cf.limit c) 1 1000 then
                                  k (.str (bs [108, 105, 109, 105, 116])) ([])
                                else
                                  bif !S.within1 (Cf.queue c) 0 200 then
                                    k (.str (bs [113, 117, 101, 117, 101])) ([])
                                  else
                                    bif !S.within1 (Cf.timeout c) 1 10000 then
                                      k (.str (bs [116, 105, 109, 101, 111, 117, 116])) ([])
                                    else
                                      bif !S.within1 (Cf.ready c) 0 100 then
                                        k (.str (bs [114, 101, 97, 100, 121])) ([])
                                      else
                                        bif !S.within1 (Cf.subset c) 0 100 then
                                          k (.str (bs [115, 117, 98, 115, 101, 116])) ([])
                                        else
                                          bif !S.within1 (Cf.sample c) 0 100 then
                                            k (.str (bs [115, 97, 109, 112, 108, 101])) ([])
                                          else
                                            k (.str (bs [])) ([])
      else
        bif !S.within (Cf.target c) 10 1000000 then
          k (.str (bs [116, 97, 114, 103, 101, 116])) ([])
        else
          bif !S.within (Cf.util c) 100 1000 then
            k (.str (bs [117, 116, 105, 108])) ([])
          else
            bif !S.within1 (Cf.stable c) 6 600 then
              k (.str (bs [115, 116, 97, 98, 108, 101])) ([])
            else
              bif !S.within1 (Cf.panic c) 1 (Cf.stable c) then
                k (.str (bs [112, 97, 110, 105, 99])) ([])
              else
                bif !S.within1 (Cf.grain c) 1 (Cf.panic c) then
                  k (.str (bs [103, 114, 97, 105, 110])) ([])
                else
                  bif !S.within (Cf.threshold c) 1100 10000 then
                    k (.str (bs [116, 104, 114, 101, 115, 104, 111, 108, 100])) ([])
                  else
                    bif !S.within (Cf.up c) 1001 1000000 then
                      k (.str (bs [117, 112])) ([])
                    else
                      bif !S.within (Cf.down c) 1001 1000000 then
                        k (.str (bs [100, 111, 119, 110])) ([])
                      else
                        bif !S.within1 (Cf.min c) 0 100 then
                          k (.str (bs [109, 105, 110])) ([])
                        else
                          bif !S.within1 (Cf.initial c) 0 (Cf.max c) then
                            k (.str (bs [105, 110, 105, 116, 105, 97, 108])) ([])
                          else
                            bif !S.within1 (Cf.grace c) 0 600 then
                              k (.str (bs [103, 114, 97, 99, 101])) ([])
                            else
                              bif !S.within1 (Cf.delay c) 0 600 then
                                k (.str (bs [100, 101, 108, 97, 121])) ([])
                              else
                                bif !S.within (Cf.burst c) 0 100000000 then
                                  k (.str (bs [98, 117, 114, 115, 116])) ([])
                                else
                                  bif !S.within1 (Cf.limit c) 1 1000 then
                                    k (.str (bs [108, 105, 109, 105, 116])) ([])
                                  else
                                    bif !S.within1 (Cf.queue c) 0 200 then
                                      k (.str (bs [113, 117, 101, 117, 101])) ([])
                                    else
                                      bif !S.within1 (Cf.timeout c) 1 10000 then
                                        k (.str (bs [116, 105, 109, 101, 111, 117, 116])) ([])
                                      else
                                        bif !S.within1 (Cf.ready c) 0 100 then
                                          k (.str (bs [114, 101, 97, 100, 121])) ([])
                                        else
                                          bif !S.within1 (Cf.subset c) 0 100 then
                                            k (.str (bs [115, 117, 98, 115, 101, 116])) ([])
                                          else
                                            bif !S.within1 (Cf.sample c) 0 100 then
                                              k (.str (bs [115, 97, 109, 112, 108, 101])) ([])
                                            else
                                              k (.str (bs [])) ([])
    else
      bif decide (Cf.burst c = -1000) then
        bif !S.within (Cf.target c) 10 1000000 then
          k (.str (bs [116, 97, 114, 103, 101, 116])) ([])
        else
          bif !S.within (Cf.util c) 100 1000 then
            k (.str (bs [117, 116, 105, 108])) ([])
          else
            bif !S.within1 (Cf.stable c) 6 600 then
              k (.str (bs [115, 116, 97, 98, 108, 101])) ([])
            else
              bif !S.within1 (Cf.panic c) 1 (Cf.stable c) then
                k (.str (bs [112, 97, 110, 105, 99])) ([])
              else
                bif !S.within1 (Cf.grain c) 1 (Cf.panic c) then
                  k (.str (bs [103, 114, 97, 105, 110])) ([])
                else
                  bif !S.within (Cf.threshold c) 1100 10000 then
                    k (.str (bs [116, 104, 114, 101, 115, 104, 111, 108, 100])) ([])
                  else
                    bif !S.within (Cf.up c) 1001 1000000 then
                      k (.str (bs [117, 112])) ([])
                    else
                      bif !S.within (Cf.down c) 1001 1000000 then
                        k (.str (bs [100, 111, 119, 110])) ([])
                      else
                        bif !S.within1 (Cf.min c) 0 100 then
                          k (.str (bs [109, 105, 110])) ([])
                        else
                          bif !S.within1 (Cf.max c) (if 1 > Cf.min c then 1 else Cf.min c) 100 then
                            k (.str (bs [109, 97, 120])) ([])
                          else
                            bif !S.within1 (Cf.initial c) 0 (Cf.max c) then
                              k (.str (bs [105, 110, 105, 116, 105, 97, 108])) ([])
                            else
                              bif !S.within1 (Cf.grace c) 0 600 then
                                k (.str (bs [103, 114, 97, 99, 101])) ([])
                              else
                                bif !S.within1 (Cf.delay c) 0 600 then
                                  k (.str (bs [100, 101, 108, 97, 121])) ([])
                                else
                                  bif !S.within1 (Cf.limit c) 1 1000 then
                                    k (.str (bs [108, 105, 109, 105, 116])) ([])
                                  else
                                    bif !S.within1 (Cf.queue c) 0 200 then
                                      k (.str (bs [113, 117, 101, 117, 101])) ([])
                                    else
                                      bif !S.within1 (Cf.timeout c) 1 10000 then
                                        k (.str (bs [116, 105, 109, 101, 111, 117, 116])) ([])
                                      else
                                        bif !S.within1 (Cf.ready c) 0 100 then
                                          k (.str (bs [114, 101, 97, 100, 121])) ([])
                                        else
                                          bif !S.within1 (Cf.subset c) 0 100 then
                                            k (.str (bs [115, 117, 98, 115, 101, 116])) ([])
                                          else
                                            bif !S.within1 (Cf.sample c) 0 100 then
                                              k (.str (bs [115, 97, 109, 112, 108, 101])) ([])
                                            else
                                              k (.str (bs [])) ([])
      else
        bif !S.within (Cf.target c) 10 1000000 then
          k (.str (bs [116, 97, 114, 103, 101, 116])) ([])
        else
          bif !S.within (Cf.util c) 100 1000 then
            k (.str (bs [117, 116, 105, 108])) ([])
          else
            bif !S.within1 (Cf.stable c) 6 600 then
              k (.str (bs [115, 116, 97, 98, 108, 101])) ([])
            else
              bif !S.within1 (Cf.panic c) 1 (Cf.stable c) then
                k (.str (bs [112, 97, 110, 105, 99])) ([])
              else
                bif !S.within1 (Cf.grain c) 1 (Cf.panic c) then
                  k (.str (bs [103, 114, 97, 105, 110])) ([])
                else
                  bif !S.within (Cf.threshold c) 1100 10000 then
                    k (.str (bs [116, 104, 114, 101, 115, 104, 111, 108, 100])) ([])
                  else
                    bif !S.within (Cf.up c) 1001 1000000 then
                      k (.str (bs [117, 112])) ([])
                    else
                      bif !S.within (Cf.down c) 1001 1000000 then
                        k (.str (bs [100, 111, 119, 110])) ([])
                      else
                        bif !S.within1 (Cf.min c) 0 100 then
                          k (.str (bs [109, 105, 110])) ([])
                        else
                          bif !S.within1 (Cf.max c) (if 1 > Cf.min c then 1 else Cf.min c) 100 then
                            k (.str (bs [109, 97, 120])) ([])
                          else
                            bif !S.within1 (Cf.initial c) 0 (Cf.max c) then
                              k (.str (bs [105, 110, 105, 116, 105, 97, 108])) ([])
                            else
                              bif !S.within1 (Cf.grace c) 0 600 then
                                k (.str (bs [103, 114, 97, 99, 101])) ([])
                              else
                                bif !S.within1 (Cf.delay c) 0 600 then
                                  k (.str (bs [100, 101, 108, 97, 121])) ([])
                                else
                                  bif !S.within (Cf.burst c) 0 100000000 then
                                    k (.str (bs [98, 117, 114, 115, 116])) ([])
                                  else
                                    bif !S.within1 (Cf.limit c) 1 1000 then
                                      k (.str (bs [108, 105, 109, 105, 116])) ([])
                                    else
                                      bif !S.within1 (Cf.queue c) 0 200 then
                                        k (.str (bs [113, 117, 101, 117, 101])) ([])
                                      else
                                        bif !S.within1 (Cf.timeout c) 1 10000 then
                                          k (.str (bs [116, 105, 109, 101, 111, 117, 116])) ([])
                                        else
                                          bif !S.within1 (Cf.ready c) 0 100 then
                                            k (.str (bs [114, 101, 97, 100, 121])) ([])
                                          else
                                            bif !S.within1 (Cf.subset c) 0 100 then
                                              k (.str (bs [115, 117, 98, 115, 101, 116])) ([])
                                            else
                                              bif !S.within1 (Cf.sample c) 0 100 then
                                                k (.str (bs [115, 97, 109, 112, 108, 101])) ([])
                                              else
                                                k (.str (bs [])) ([])
  else
    bif decide (Cf.max c = 0) then
      bif decide (Cf.burst c = -1000) then
        bif !S.within (Cf.target c) 10 1000000 then
          k (.str (bs [116, 97, 114, 103, 101, 116])) ([])
        else
          bif !S.within (Cf.util c) 100 1000 then
            k (.str (bs [117, 116, 105, 108])) ([])
          else
            bif !S.within1 (Cf.stable c) 6 600 then
              k (.str (bs [115, 116, 97, 98, 108, 101])) ([])
            else
              bif !S.within1 (Cf.panic c) 1 (Cf.stable c) then
                k (.str (bs [112, 97, 110, 105, 99])) ([])
              else
                bif !S.within1 (Cf.grain c) 1 (Cf.panic c) then
                  k (.str (bs [103, 114, 97, 105, 110])) ([])
                else
                  bif !S.within (Cf.threshold c) 1100 10000 then
                    k (.str (bs [116, 104, 114, 101, 115, 104, 111, 108, 100])) ([])
                  else
                    bif !S.within (Cf.up c) 1001 1000000 then
                      k (.str (bs [117, 112])) ([])
                    else
                      bif !S.within (Cf.down c) 1001 1000000 then
                        k (.str (bs [100, 111, 119, 110])) ([])
                      else
                        bif !S.within1 (Cf.min c) 0 100 then
                          k (.str (bs [109, 105, 110])) ([])
                        else
                          bif !S.within1 (Cf.initial c) 0 100 then
                            k (.str (bs [105, 110, 105, 116, 105, 97, 108])) ([])
                          else
                            bif !S.within1 (Cf.grace c) 0 600 then
                              k (.str (bs [103, 114, 97, 99, 101])) ([])
                            else
                              bif !S.within1 (Cf.delay c) 0 600 then
                                k (.str (bs [100, 101, 108, 97, 121])) ([])
                              else
                                bif !S.within1 (Cf.limit c) 1 1000 then
                                  k (.str (bs [108, 105, 109, 105, 116])) ([])
                                else
                                  bif !S.within1 (Cf.queue c) 0 200 then
                                    k (.str (bs [113, 117, 101, 117, 101])) ([])
                                  else
                                    bif !S.within1 (Cf.timeout c) 1 10000 then
                                      k (.str (bs [116, 105, 109, 101, 111, 117, 116])) ([])
                                    else
                                      bif !S.within1 (Cf.ready c) 0 100 then
                                        k (.str (bs [114, 101, 97, 100, 121])) ([])
                                      else
                                        bif !S.within1 (Cf.subset c) 0 100 then
                                          k (.str (bs [115, 117, 98, 115, 101, 116])) ([])
                                        else
                                          bif !S.within1 (Cf.sample c) 0 100 then
                                            k (.str (bs [115, 97, 109, 112, 108, 101])) ([])
                                          else
                                            k (.str (bs [])) ([])
      else
        bif !S.within (Cf.target c) 10 1000000 then
          k (.str (bs [116, 97, 114, 103, 101, 116])) ([])
        else
          bif !S.within (Cf.util c) 100 1000 then
            k (.str (bs [117, 116, 105, 108])) ([])
          else
            bif !S.within1 (Cf.stable c) 6 600 then
              k (.str (bs [115, 116, 97, 98, 108, 101])) ([])
            else
              bif !S.within1 (Cf.panic c) 1 (Cf.stable c) then
                k (.str (bs [112, 97, 110, 105, 99])) ([])
              else
                bif !S.within1 (Cf.grain c) 1 (Cf.panic c) then
                  k (.str (bs [103, 114, 97, 105, 110])) ([])
                else
                  bif !S.within (Cf.threshold c) 1100 10000 then
                    k (.str (bs [116, 104, 114, 101, 115, 104, 111, 108, 100])) ([])
                  else
                    bif !S.within (Cf.up c) 1001 1000000 then
                      k (.str (bs [117, 112])) ([])
                    else
                      bif !S.within (Cf.down c) 1001 1000000 then
                        k (.str (bs [100, 111, 119, 110])) ([])
                      else
                        bif !S.within1 (Cf.min c) 0 100 then
                          k (.str (bs [109, 105, 110])) ([])
                        else
                          bif !S.within1 (Cf.initial c) 0 100 then
                            k (.str (bs [105, 110, 105, 116, 105, 97, 108])) ([])
                          else
                            bif !S.within1 (Cf.grace c) 0 600 then
                              k (.str (bs [103, 114, 97, 99, 101])) ([])
                            else
                              bif !S.within1 (Cf.delay c) 0 600 then
                                k (.str (bs [100, 101, 108, 97, 121])) ([])
                              else
                                bif !S.within (Cf.burst c) 0 100000000 then
                                  k (.str (bs [98, 117, 114, 115, 116])) ([])
                                else
                                  bif !S.within1 (Cf.limit c) 1 1000 then
                                    k (.str (bs [108, 105, 109, 105, 116])) ([])
                                  else
                                    bif !S.within1 (Cf.queue c) 0 200 then
                                      k (.str (bs [113, 117, 101, 117, 101])) ([])
                                    else
                                      bif !S.within1 (Cf.timeout c) 1 10000 then
                                        k (.str (bs [116, 105, 109, 101, 111, 117, 116])) ([])
                                      else
                                        bif !S.within1 (Cf.ready c) 0 100 then
                                          k (.str (bs [114, 101, 97, 100, 121])) ([])
                                        else
                                          bif !S.within1 (Cf.subset c) 0 100 then
                                            k (.str (bs [115, 117, 98, 115, 101, 116])) ([])
                                          else
                                            bif !S.within1 (Cf.sample c) 0 100 then
                                              k (.str (bs [115, 97, 109, 112, 108, 101])) ([])
                                            else
                                              k (.str (bs [])) ([])
    else
      bif decide (Cf.burst c = -1000) then
        bif !S.within (Cf.target c) 10 1000000 then
          k (.str (bs [116, 97, 114, 103, 101, 116])) ([])
        else
          bif !S.within (Cf.util c) 100 1000 then
            k (.str (bs [117, 116, 105, 108])) ([])
          else
            bif !S.within1 (Cf.stable c) 6 600 then
              k (.str (bs [115, 116, 97, 98, 108, 101])) ([])
            else
              bif !S.within1 (Cf.panic c) 1 (Cf.stable c) then
                k (.str (bs [112, 97, 110, 105, 99])) ([])
              else
                bif !S.within1 (Cf.grain c) 1 (Cf.panic c) then
                  k (.str (bs [103, 114, 97, 105, 110])) ([])
                else
                  bif !S.within (Cf.threshold c) 1100 10000 then
                    k (.str (bs [116, 104, 114, 101, 115, 104, 111, 108, 100])) ([])
                  else
                    bif !S.within (Cf.up c) 1001 1000000 then
                      k (.str (bs [117, 112])) ([])
                    else
                      bif !S.within (Cf.down c) 1001 1000000 then
                        k (.str (bs [100, 111, 119, 110])) ([])
                      else
                        bif !S.within1 (Cf.min c) 0 100 then
                          k (.str (bs [109, 105, 110])) ([])
                        else
                          bif !S.within1 (Cf.max c) (if 1 > Cf.min c then 1 else Cf.min c) 100 then
                            k (.str (bs [109, 97, 120])) ([])
                          else
                            bif !S.within1 (Cf.initial c) 0 100 then
                              k (.str (bs [105, 110, 105, 116, 105, 97, 108])) ([])
                            else
                              bif !S.within1 (Cf.grace c) 0 600 then
                                k (.str (bs [103, 114, 97, 99, 101])) ([])
                              else
                                bif !S.within1 (Cf.delay c) 0 600 then
                                  k (.str (bs [100, 101, 108, 97, 121])) ([])
                                else
                                  bif !S.within1 (Cf.limit c) 1 1000 then
                                    k (.str (bs [108, 105, 109, 105, 116])) ([])
                                  else
                                    bif !S.within1 (Cf.queue c) 0 200 then
                                      k (.str (bs [113, 117, 101, 117, 101])) ([])
                                    else
                                      bif !S.within1 (Cf.timeout c) 1 10000 then
                                        k (.str (bs [116, 105, 109, 101, 111, 117, 116])) ([])
                                      else
                                        bif !S.within1 (Cf.ready c) 0 100 then
                                          k (.str (bs [114, 101, 97, 100, 121])) ([])
                                        else
                                          bif !S.within1 (Cf.subset c) 0 100 then
                                            k (.str (bs [115, 117, 98, 115, 101, 116])) ([])
                                          else
                                            bif !S.within1 (Cf.sample c) 0 100 then
                                              k (.str (bs [115, 97, 109, 112, 108, 101])) ([])
                                            else
                                              k (.str (bs [])) ([])
      else
        bif !S.within (Cf.target c) 10 1000000 then
          k (.str (bs [116, 97, 114, 103, 101, 116])) ([])
        else
          bif !S.within (Cf.util c) 100 1000 then
            k (.str (bs [117, 116, 105, 108])) ([])
          else
            bif !S.within1 (Cf.stable c) 6 600 then
              k (.str (bs [115, 116, 97, 98, 108, 101])) ([])
            else
              bif !S.within1 (Cf.panic c) 1 (Cf.stable c) then
                k (.str (bs [112, 97, 110, 105, 99])) ([])
              else
                bif !S.within1 (Cf.grain c) 1 (Cf.panic c) then
                  k (.str (bs [103, 114, 97, 105, 110])) ([])
                else
                  bif !S.within (Cf.threshold c) 1100 10000 then
                    k (.str (bs [116, 104, 114, 101, 115, 104, 111, 108, 100])) ([])
                  else
                    bif !S.within (Cf.up c) 1001 1000000 then
                      k (.str (bs [117, 112])) ([])
                    else
                      bif !S.within (Cf.down c) 1001 1000000 then
                        k (.str (bs [100, 111, 119, 110])) ([])
                      else
                        bif !S.within1 (Cf.min c) 0 100 then
                          k (.str (bs [109, 105, 110])) ([])
                        else
                          bif !S.within1 (Cf.max c) (if 1 > Cf.min c then 1 else Cf.min c) 100 then
                            k (.str (bs [109, 97, 120])) ([])
                          else
                            bif !S.within1 (Cf.initial c) 0 100 then
                              k (.str (bs [105, 110, 105, 116, 105, 97, 108])) ([])
                            else
                              bif !S.within1 (Cf.grace c) 0 600 then
                                k (.str (bs [103, 114, 97, 99, 101])) ([])
                              else
                                bif !S.within1 (Cf.delay c) 0 600 then
                                  k (.str (bs [100, 101, 108, 97, 121])) ([])
                                else
                                  bif !S.within (Cf.burst c) 0 100000000 then
                                    k (.str (bs [98, 117, 114, 115, 116])) ([])
                                  else
                                    bif !S.within1 (Cf.limit c) 1 1000 then
                                      k (.str (bs [108, 105, 109, 105, 116])) ([])
                                    else
                                      bif !S.within1 (Cf.queue c) 0 200 then
                                        k (.str (bs [113, 117, 101, 117, 101])) ([])
                                      else
                                        bif !S.within1 (Cf.timeout c) 1 10000 then
                                          k (.str (bs [116, 105, 109, 101, 111, 117, 116])) ([])
                                        else
                                          bif !S.within1 (Cf.ready c) 0 100 then
                                            k (.str (bs [114, 101, 97, 100, 121])) ([])
                                          else
                                            bif !S.within1 (Cf.subset c) 0 100 then
                                              k (.str (bs [115, 117, 98, 115, 101, 116])) ([])
                                            else
                                              bif !S.within1 (Cf.sample c) 0 100 then
                                                k (.str (bs [115, 97, 109, 112, 108, 101])) ([])
                                              else
                                                k (.str (bs [])) ([])) := by kernel_rfl
noncomputable def S.wrong (c : Cf) : ByteArray :=
  bif !decide (Cf.max c = 0) then
    bif decide (Cf.max c = 0) then
      bif decide (Cf.burst c = -1000) then
        bif !S.within (Cf.target c) 10 1000000 then
          (bs [116, 97, 114, 103, 101, 116])
        else
          bif !S.within (Cf.util c) 100 1000 then
            (bs [117, 116, 105, 108])
          else
            bif !S.within1 (Cf.stable c) 6 600 then
              (bs [115, 116, 97, 98, 108, 101])
            else
              bif !S.within1 (Cf.panic c) 1 (Cf.stable c) then
                (bs [112, 97, 110, 105, 99])
              else
                bif !S.within1 (Cf.grain c) 1 (Cf.panic c) then
                  (bs [103, 114, 97, 105, 110])
                else
                  bif !S.within (Cf.threshold c) 1100 10000 then
                    (bs [116, 104, 114, 101, 115, 104, 111, 108, 100])
                  else
                    bif !S.within (Cf.up c) 1001 1000000 then
                      (bs [117, 112])
                    else
                      bif !S.within (Cf.down c) 1001 1000000 then
                        (bs [100, 111, 119, 110])
                      else
                        bif !S.within1 (Cf.min c) 0 100 then
                          (bs [109, 105, 110])
                        else
                          bif !S.within1 (Cf.initial c) 0 (Cf.max c) then
                            (bs [105, 110, 105, 116, 105, 97, 108])
                          else
                            bif !S.within1 (Cf.grace c) 0 600 then
                              (bs [103, 114, 97, 99, 101])
                            else
                              bif !S.within1 (Cf.delay c) 0 600 then
                                (bs [100, 101, 108, 97, 121])
                              else
                                bif !S.within1 (Cf.limit c) 1 1000 then
                                  (bs [108, 105, 109, 105, 116])
                                else
                                  bif !S.within1 (Cf.queue c) 0 200 then
                                    (bs [113, 117, 101, 117, 101])
                                  else
                                    bif !S.within1 (Cf.timeout c) 1 10000 then
                                      (bs [116, 105, 109, 101, 111, 117, 116])
                                    else
                                      bif !S.within1 (Cf.ready c) 0 100 then
                                        (bs [114, 101, 97, 100, 121])
                                      else
                                        bif !S.within1 (Cf.subset c) 0 100 then
                                          (bs [115, 117, 98, 115, 101, 116])
                                        else
                                          bif !S.within1 (Cf.sample c) 0 100 then
                                            (bs [115, 97, 109, 112, 108, 101])
                                          else
                                            (bs [])
      else
        bif !S.within (Cf.target c) 10 1000000 then
          (bs [116, 97, 114, 103, 101, 116])
        else
          bif !S.within (Cf.util c) 100 1000 then
            (bs [117, 116, 105, 108])
          else
            bif !S.within1 (Cf.stable c) 6 600 then
              (bs [115, 116, 97, 98, 108, 101])
            else
              bif !S.within1 (Cf.panic c) 1 (Cf.stable c) then
                (bs [112, 97, 110, 105, 99])
              else
                bif !S.within1 (Cf.grain c) 1 (Cf.panic c) then
                  (bs [103, 114, 97, 105, 110])
                else
                  bif !S.within (Cf.threshold c) 1100 10000 then
                    (bs [116, 104, 114, 101, 115, 104, 111, 108, 100])
                  else
                    bif !S.within (Cf.up c) 1001 1000000 then
                      (bs [117, 112])
                    else
                      bif !S.within (Cf.down c) 1001 1000000 then
                        (bs [100, 111, 119, 110])
                      else
                        bif !S.within1 (Cf.min c) 0 100 then
                          (bs [109, 105, 110])
                        else
                          bif !S.within1 (Cf.initial c) 0 (Cf.max c) then
                            (bs [105, 110, 105, 116, 105, 97, 108])
                          else
                            bif !S.within1 (Cf.grace c) 0 600 then
                              (bs [103, 114, 97, 99, 101])
                            else
                              bif !S.within1 (Cf.delay c) 0 600 then
                                (bs [100, 101, 108, 97, 121])
                              else
                                bif !S.within (Cf.burst c) 0 100000000 then
                                  (bs [98, 117, 114, 115, 116])
                                else
                                  bif !S.within1 (Cf.limit c) 1 1000 then
                                    (bs [108, 105, 109, 105, 116])
                                  else
                                    bif !S.within1 (Cf.queue c) 0 200 then
                                      (bs [113, 117, 101, 117, 101])
                                    else
                                      bif !S.within1 (Cf.timeout c) 1 10000 then
                                        (bs [116, 105, 109, 101, 111, 117, 116])
                                      else
                                        bif !S.within1 (Cf.ready c) 0 100 then
                                          (bs [114, 101, 97, 100, 121])
                                        else
                                          bif !S.within1 (Cf.subset c) 0 100 then
                                            (bs [115, 117, 98, 115, 101, 116])
                                          else
                                            bif !S.within1 (Cf.sample c) 0 100 then
                                              (bs [115, 97, 109, 112, 108, 101])
                                            else
                                              (bs [])
    else
      bif decide (Cf.burst c = -1000) then
        bif !S.within (Cf.target c) 10 1000000 then
          (bs [116, 97, 114, 103, 101, 116])
        else
          bif !S.within (Cf.util c) 100 1000 then
            (bs [117, 116, 105, 108])
          else
            bif !S.within1 (Cf.stable c) 6 600 then
              (bs [115, 116, 97, 98, 108, 101])
            else
              bif !S.within1 (Cf.panic c) 1 (Cf.stable c) then
                (bs [112, 97, 110, 105, 99])
              else
                bif !S.within1 (Cf.grain c) 1 (Cf.panic c) then
                  (bs [103, 114, 97, 105, 110])
                else
                  bif !S.within (Cf.threshold c) 1100 10000 then
                    (bs [116, 104, 114, 101, 115, 104, 111, 108, 100])
                  else
                    bif !S.within (Cf.up c) 1001 1000000 then
                      (bs [117, 112])
                    else
                      bif !S.within (Cf.down c) 1001 1000000 then
                        (bs [100, 111, 119, 110])
                      else
                        bif !S.within1 (Cf.min c) 0 100 then
                          (bs [109, 105, 110])
                        else
                          bif !S.within1 (Cf.max c) (if 1 > Cf.min c then 1 else Cf.min c) 100 then
                            (bs [109, 97, 120])
                          else
                            bif !S.within1 (Cf.initial c) 0 (Cf.max c) then
                              (bs [105, 110, 105, 116, 105, 97, 108])
                            else
                              bif !S.within1 (Cf.grace c) 0 600 then
                                (bs [103, 114, 97, 99, 101])
                              else
                                bif !S.within1 (Cf.delay c) 0 600 then
                                  (bs [100, 101, 108, 97, 121])
                                else
                                  bif !S.within1 (Cf.limit c) 1 1000 then
                                    (bs [108, 105, 109, 105, 116])
                                  else
                                    bif !S.within1 (Cf.queue c) 0 200 then
                                      (bs [113, 117, 101, 117, 101])
                                    else
                                      bif !S.within1 (Cf.timeout c) 1 10000 then
                                        (bs [116, 105, 109, 101, 111, 117, 116])
                                      else
                                        bif !S.within1 (Cf.ready c) 0 100 then
                                          (bs [114, 101, 97, 100, 121])
                                        else
                                          bif !S.within1 (Cf.subset c) 0 100 then
                                            (bs [115, 117, 98, 115, 101, 116])
                                          else
                                            bif !S.within1 (Cf.sample c) 0 100 then
                                              (bs [115, 97, 109, 112, 108, 101])
                                            else
                                              (bs [])
      else
        bif !S.within (Cf.target c) 10 1000000 then
          (bs [116, 97, 114, 103, 101, 116])
        else
          bif !S.within (Cf.util c) 100 1000 then
            (bs [117, 116, 105, 108])
          else
            bif !S.within1 (Cf.stable c) 6 600 then
              (bs [115, 116, 97, 98, 108, 101])
            else
              bif !S.within1 (Cf.panic c) 1 (Cf.stable c) then
                (bs [112, 97, 110, 105, 99])
              else
                bif !S.within1 (Cf.grain c) 1 (Cf.panic c) then
                  (bs [103, 114, 97, 105, 110])
                else
                  bif !S.within (Cf.threshold c) 1100 10000 then
                    (bs [116, 104, 114, 101, 115, 104, 111, 108, 100])
                  else
                    bif !S.within (Cf.up c) 1001 1000000 then
                      (bs [117, 112])
                    else
                      bif !S.within (Cf.down c) 1001 1000000 then
                        (bs [100, 111, 119, 110])
                      else
                        bif !S.within1 (Cf.min c) 0 100 then
                          (bs [109, 105, 110])
                        else
                          bif !S.within1 (Cf.max c) (if 1 > Cf.min c then 1 else Cf.min c) 100 then
                            (bs [109, 97, 120])
                          else
                            bif !S.within1 (Cf.initial c) 0 (Cf.max c) then
                              (bs [105, 110, 105, 116, 105, 97, 108])
                            else
                              bif !S.within1 (Cf.grace c) 0 600 then
                                (bs [103, 114, 97, 99, 101])
                              else
                                bif !S.within1 (Cf.delay c) 0 600 then
                                  (bs [100, 101, 108, 97, 121])
                                else
                                  bif !S.within (Cf.burst c) 0 100000000 then
                                    (bs [98, 117, 114, 115, 116])
                                  else
                                    bif !S.within1 (Cf.limit c) 1 1000 then
                                      (bs [108, 105, 109, 105, 116])
                                    else
                                      bif !S.within1 (Cf.queue c) 0 200 then
                                        (bs [113, 117, 101, 117, 101])
                                      else
                                        bif !S.within1 (Cf.timeout c) 1 10000 then
                                          (bs [116, 105, 109, 101, 111, 117, 116])
                                        else
                                          bif !S.within1 (Cf.ready c) 0 100 then
                                            (bs [114, 101, 97, 100, 121])
                                          else
                                            bif !S.within1 (Cf.subset c) 0 100 then
                                              (bs [115, 117, 98, 115, 101, 116])
                                            else
                                              bif !S.within1 (Cf.sample c) 0 100 then
                                                (bs [115, 97, 109, 112, 108, 101])
                                              else
                                                (bs [])
  else
    bif decide (Cf.max c = 0) then
      bif decide (Cf.burst c = -1000) then
        bif !S.within (Cf.target c) 10 1000000 then
          (bs [116, 97, 114, 103, 101, 116])
        else
          bif !S.within (Cf.util c) 100 1000 then
            (bs [117, 116, 105, 108])
          else
            bif !S.within1 (Cf.stable c) 6 600 then
              (bs [115, 116, 97, 98, 108, 101])
            else
              bif !S.within1 (Cf.panic c) 1 (Cf.stable c) then
                (bs [112, 97, 110, 105, 99])
              else
                bif !S.within1 (Cf.grain c) 1 (Cf.panic c) then
                  (bs [103, 114, 97, 105, 110])
                else
                  bif !S.within (Cf.threshold c) 1100 10000 then
                    (bs [116, 104, 114, 101, 115, 104, 111, 108, 100])
                  else
                    bif !S.within (Cf.up c) 1001 1000000 then
                      (bs [117, 112])
                    else
                      bif !S.within (Cf.down c) 1001 1000000 then
                        (bs [100, 111, 119, 110])
                      else
                        bif !S.within1 (Cf.min c) 0 100 then
                          (bs [109, 105, 110])
                        else
                          bif !S.within1 (Cf.initial c) 0 100 then
                            (bs [105, 110, 105, 116, 105, 97, 108])
                          else
                            bif !S.within1 (Cf.grace c) 0 600 then
                              (bs [103, 114, 97, 99, 101])
                            else
                              bif !S.within1 (Cf.delay c) 0 600 then
                                (bs [100, 101, 108, 97, 121])
                              else
                                bif !S.within1 (Cf.limit c) 1 1000 then
                                  (bs [108, 105, 109, 105, 116])
                                else
                                  bif !S.within1 (Cf.queue c) 0 200 then
                                    (bs [113, 117, 101, 117, 101])
                                  else
                                    bif !S.within1 (Cf.timeout c) 1 10000 then
                                      (bs [116, 105, 109, 101, 111, 117, 116])
                                    else
                                      bif !S.within1 (Cf.ready c) 0 100 then
                                        (bs [114, 101, 97, 100, 121])
                                      else
                                        bif !S.within1 (Cf.subset c) 0 100 then
                                          (bs [115, 117, 98, 115, 101, 116])
                                        else
                                          bif !S.within1 (Cf.sample c) 0 100 then
                                            (bs [115, 97, 109, 112, 108, 101])
                                          else
                                            (bs [])
      else
        bif !S.within (Cf.target c) 10 1000000 then
          (bs [116, 97, 114, 103, 101, 116])
        else
          bif !S.within (Cf.util c) 100 1000 then
            (bs [117, 116, 105, 108])
          else
            bif !S.within1 (Cf.stable c) 6 600 then
              (bs [115, 116, 97, 98, 108, 101])
            else
              bif !S.within1 (Cf.panic c) 1 (Cf.stable c) then
                (bs [112, 97, 110, 105, 99])
              else
                bif !S.within1 (Cf.grain c) 1 (Cf.panic c) then
                  (bs [103, 114, 97, 105, 110])
                else
                  bif !S.within (Cf.threshold c) 1100 10000 then
                    (bs [116, 104, 114, 101, 115, 104, 111, 108, 100])
                  else
                    bif !S.within (Cf.up c) 1001 1000000 then
                      (bs [117, 112])
                    else
                      bif !S.within (Cf.down c) 1001 1000000 then
                        (bs [100, 111, 119, 110])
                      else
                        bif !S.within1 (Cf.min c) 0 100 then
                          (bs [109, 105, 110])
                        else
                          bif !S.within1 (Cf.initial c) 0 100 then
                            (bs [105, 110, 105, 116, 105, 97, 108])
                          else
                            bif !S.within1 (Cf.grace c) 0 600 then
                              (bs [103, 114, 97, 99, 101])
                            else
                              bif !S.within1 (Cf.delay c) 0 600 then
                                (bs [100, 101, 108, 97, 121])
                              else
                                bif !S.within (Cf.burst c) 0 100000000 then
                                  (bs [98, 117, 114, 115, 116])
                                else
                                  bif !S.within1 (Cf.limit c) 1 1000 then
                                    (bs [108, 105, 109, 105, 116])
                                  else
                                    bif !S.within1 (Cf.queue c) 0 200 then
                                      (bs [113, 117, 101, 117, 101])
                                    else
                                      bif !S.within1 (Cf.timeout c) 1 10000 then
                                        (bs [116, 105, 109, 101, 111, 117, 116])
                                      else
                                        bif !S.within1 (Cf.ready c) 0 100 then
                                          (bs [114, 101, 97, 100, 121])
                                        else
                                          bif !S.within1 (Cf.subset c) 0 100 then
                                            (bs [115, 117, 98, 115, 101, 116])
                                          else
                                            bif !S.within1 (Cf.sample c) 0 100 then
                                              (bs [115, 97, 109, 112, 108, 101])
                                            else
                                              (bs [])
    else
      bif decide (Cf.burst c = -1000) then
        bif !S.within (Cf.target c) 10 1000000 then
          (bs [116, 97, 114, 103, 101, 116])
        else
          bif !S.within (Cf.util c) 100 1000 then
            (bs [117, 116, 105, 108])
          else
            bif !S.within1 (Cf.stable c) 6 600 then
              (bs [115, 116, 97, 98, 108, 101])
            else
              bif !S.within1 (Cf.panic c) 1 (Cf.stable c) then
                (bs [112, 97, 110, 105, 99])
              else
                bif !S.within1 (Cf.grain c) 1 (Cf.panic c) then
                  (bs [103, 114, 97, 105, 110])
                else
                  bif !S.within (Cf.threshold c) 1100 10000 then
                    (bs [116, 104, 114, 101, 115, 104, 111, 108, 100])
                  else
                    bif !S.within (Cf.up c) 1001 1000000 then
                      (bs [117, 112])
                    else
                      bif !S.within (Cf.down c) 1001 1000000 then
                        (bs [100, 111, 119, 110])
                      else
                        bif !S.within1 (Cf.min c) 0 100 then
                          (bs [109, 105, 110])
                        else
                          bif !S.within1 (Cf.max c) (if 1 > Cf.min c then 1 else Cf.min c) 100 then
                            (bs [109, 97, 120])
                          else
                            bif !S.within1 (Cf.initial c) 0 100 then
                              (bs [105, 110, 105, 116, 105, 97, 108])
                            else
                              bif !S.within1 (Cf.grace c) 0 600 then
                                (bs [103, 114, 97, 99, 101])
                              else
                                bif !S.within1 (Cf.delay c) 0 600 then
                                  (bs [100, 101, 108, 97, 121])
                                else
                                  bif !S.within1 (Cf.limit c) 1 1000 then
                                    (bs [108, 105, 109, 105, 116])
                                  else
                                    bif !S.within1 (Cf.queue c) 0 200 then
                                      (bs [113, 117, 101, 117, 101])
                                    else
                                      bif !S.within1 (Cf.timeout c) 1 10000 then
                                        (bs [116, 105, 109, 101, 111, 117, 116])
                                      else
                                        bif !S.within1 (Cf.ready c) 0 100 then
                                          (bs [114, 101, 97, 100, 121])
                                        else
                                          bif !S.within1 (Cf.subset c) 0 100 then
                                            (bs [115, 117, 98, 115, 101, 116])
                                          else
                                            bif !S.within1 (Cf.sample c) 0 100 then
                                              (bs [115, 97, 109, 112, 108, 101])
                                            else
                                              (bs [])
      else
        bif !S.within (Cf.target c) 10 1000000 then
          (bs [116, 97, 114, 103, 101, 116])
        else
          bif !S.within (Cf.util c) 100 1000 then
            (bs [117, 116, 105, 108])
          else
            bif !S.within1 (Cf.stable c) 6 600 then
              (bs [115, 116, 97, 98, 108, 101])
            else
              bif !S.within1 (Cf.panic c) 1 (Cf.stable c) then
                (bs [112, 97, 110, 105, 99])
              else
                bif !S.within1 (Cf.grain c) 1 (Cf.panic c) then
                  (bs [103, 114, 97, 105, 110])
                else
                  bif !S.within (Cf.threshold c) 1100 10000 then
                    (bs [116, 104, 114, 101, 115, 104, 111, 108, 100])
                  else
                    bif !S.within (Cf.up c) 1001 1000000 then
                      (bs [117, 112])
                    else
                      bif !S.within (Cf.down c) 1001 1000000 then
                        (bs [100, 111, 119, 110])
                      else
                        bif !S.within1 (Cf.min c) 0 100 then
                          (bs [109, 105, 110])
                        else
                          bif !S.within1 (Cf.max c) (if 1 > Cf.min c then 1 else Cf.min c) 100 then
                            (bs [109, 97, 120])
                          else
                            bif !S.within1 (Cf.initial c) 0 100 then
                              (bs [105, 110, 105, 116, 105, 97, 108])
                            else
                              bif !S.within1 (Cf.grace c) 0 600 then
                                (bs [103, 114, 97, 99, 101])
                              else
                                bif !S.within1 (Cf.delay c) 0 600 then
                                  (bs [100, 101, 108, 97, 121])
                                else
                                  bif !S.within (Cf.burst c) 0 100000000 then
                                    (bs [98, 117, 114, 115, 116])
                                  else
                                    bif !S.within1 (Cf.limit c) 1 1000 then
                                      (bs [108, 105, 109, 105, 116])
                                    else
                                      bif !S.within1 (Cf.queue c) 0 200 then
                                        (bs [113, 117, 101, 117, 101])
                                      else
                                        bif !S.within1 (Cf.timeout c) 1 10000 then
                                          (bs [116, 105, 109, 101, 111, 117, 116])
                                        else
                                          bif !S.within1 (Cf.ready c) 0 100 then
                                            (bs [114, 101, 97, 100, 121])
                                          else
                                            bif !S.within1 (Cf.subset c) 0 100 then
                                              (bs [115, 117, 98, 115, 101, 116])
                                            else
                                              bif !S.within1 (Cf.sample c) 0 100 then
                                                (bs [115, 97, 109, 112, 108, 101])
                                              else
                                                (bs [])
theorem S.wrong_v {R : Type} (c : Cf) (k : AVal → List Blk → Option R) : fnEval tis F33 40 G50 Try.f33 [.agg (cfA c)] [] k = k (.str (S.wrong c)) [] :=
  (S.wrong_k c k).trans (bif_lift (f := (fun v : ByteArray => k (.str v) [])) (bif_lift (f := (fun v : ByteArray => k (.str v) [])) (bif_lift (f := (fun v : ByteArray => k (.str v) [])) (bif_lift (f := (fun v : ByteArray => k (.str v) [])) rfl (bif_lift (f := (fun v : ByteArray => k (.str v) [])) rfl (bif_lift (f := (fun v : ByteArray => k (.str v) [])) rfl (bif_lift (f := (fun v : ByteArray => k (.str v) [])) rfl (bif_lift (f := (fun v : ByteArray => k (.str v) [])) rfl (bif_lift (f := (fun v : ByteArray => k (.str v) [])) rfl (bif_lift (f := (fun v : ByteArray => k (.str v) [])) rfl (bif_lift (f := (fun v : ByteArray => k (.str v) [])) rfl (bif_lift (f := (fun v : ByteArray => k (.str v) [])) rfl (bif_lift (f := (fun v : ByteArray => k (.str v) [])) rfl (bif_lift (f := (fun v : ByteArray => k (.str v) [])) rfl (bif_lift (f := (fun v : ByteArray => k (.str v) [])) rfl (bif_lift (f := (fun v : ByteArray => k (.str v) [])) rfl (bif_lift (f := (fun v : ByteArray => k (.str v) [])) rfl (bif_lift (f := (fun v : ByteArray => k (.str v) [])) rfl (bif_lift (f := (fun v : ByteArray => k (.str v) [])) rfl (bif_lift (f := (fun v : ByteArray => k (.str v) [])) rfl (bif_lift (f := (fun v : ByteArray => k (.str v) [])) rfl rfl)))))))))))))))))) (bif_lift (f := (fun v : ByteArray => k (.str v) [])) rfl (bif_lift (f := (fun v : ByteArray => k (.str v) [])) rfl (bif_lift (f := (fun v : ByteArray => k (.str v) [])) rfl (bif_lift (f := (fun v : ByteArray => k (.str v) [])) rfl (bif_lift (f := (fun v : ByteArray => k (.str v) [])) rfl (bif_lift (f := (fun v : ByteArray => k (.str v) [])) rfl (bif_lift (f := (fun v : ByteArray => k (.str v) [])) rfl (bif_lift (f := (fun v : ByteArray => k (.str v) [])) rfl (bif_lift (f := (fun v : ByteArray => k (.str v) [])) rfl (bif_lift (f := (fun v : ByteArray => k (.str v) [])) rfl (bif_lift (f := (fun v : ByteArray => k (.str v) [])) rfl (bif_lift (f := (fun v : ByteArray => k (.str v) [])) rfl (bif_lift (f := (fun v : ByteArray => k (.str v) [])) rfl (bif_lift (f := (fun v : ByteArray => k (.str v) [])) rfl (bif_lift (f := (fun v : ByteArray => k (.str v) [])) rfl (bif_lift (f := (fun v : ByteArray => k (.str v) [])) rfl (bif_lift (f := (fun v : ByteArray => k (.str v) [])) rfl (bif_lift (f := (fun v : ByteArray => k (.str v) [])) rfl (bif_lift (f := (fun v : ByteArray => k (.str v) [])) rfl rfl)))))))))))))))))))) (bif_lift (f := (fun v : ByteArray => k (.str v) [])) (bif_lift (f := (fun v : ByteArray => k (.str v) [])) rfl (bif_lift (f := (fun v : ByteArray => k (.str v) [])) rfl (bif_lift (f := (fun v : ByteArray => k (.str v) [])) rfl (bif_lift (f := (fun v : ByteArray => k (.str v) [])) rfl (bif_lift (f := (fun v : ByteArray => k (.str v) [])) rfl (bif_lift (f := (fun v : ByteArray => k (.str v) [])) rfl (bif_lift (f := (fun v : ByteArray => k (.str v) [])) rfl (bif_lift (f := (fun v : ByteArray => k (.str v) [])) rfl (bif_lift (f := (fun v : ByteArray => k (.str v) [])) rfl (bif_lift (f := (fun v : ByteArray => k (.str v) [])) rfl (bif_lift (f := (fun v : ByteArray => k (.str v) [])) rfl (bif_lift (f := (fun v : ByteArray => k (.str v) [])) rfl (bif_lift (f := (fun v : ByteArray => k (.str v) [])) rfl (bif_lift (f := (fun v : ByteArray => k (.str v) [])) rfl (bif_lift (f := (fun v : ByteArray => k (.str v) [])) rfl (bif_lift (f := (fun v : ByteArray => k (.str v) [])) rfl (bif_lift (f := (fun v : ByteArray => k (.str v) [])) rfl (bif_lift (f := (fun v : ByteArray => k (.str v) [])) rfl (bif_lift (f := (fun v : ByteArray => k (.str v) [])) rfl rfl))))))))))))))))))) (bif_lift (f := (fun v : ByteArray => k (.str v) [])) rfl (bif_lift (f := (fun v : ByteArray => k (.str v) [])) rfl (bif_lift (f := (fun v : ByteArray => k (.str v) [])) rfl (bif_lift (f := (fun v : ByteArray => k (.str v) [])) rfl (bif_lift (f := (fun v : ByteArray => k (.str v) [])) rfl (bif_lift (f := (fun v : ByteArray => k (.str v) [])) rfl (bif_lift (f := (fun v : ByteArray => k (.str v) [])) rfl (bif_lift (f := (fun v : ByteArray => k (.str v) [])) rfl (bif_lift (f := (fun v : ByteArray => k (.str v) [])) rfl (bif_lift (f := (fun v : ByteArray => k (.str v) [])) rfl (bif_lift (f := (fun v : ByteArray => k (.str v) [])) rfl (bif_lift (f := (fun v : ByteArray => k (.str v) [])) rfl (bif_lift (f := (fun v : ByteArray => k (.str v) [])) rfl (bif_lift (f := (fun v : ByteArray => k (.str v) [])) rfl (bif_lift (f := (fun v : ByteArray => k (.str v) [])) rfl (bif_lift (f := (fun v : ByteArray => k (.str v) [])) rfl (bif_lift (f := (fun v : ByteArray => k (.str v) [])) rfl (bif_lift (f := (fun v : ByteArray => k (.str v) [])) rfl (bif_lift (f := (fun v : ByteArray => k (.str v) [])) rfl (bif_lift (f := (fun v : ByteArray => k (.str v) [])) rfl rfl)))))))))))))))))))))) (bif_lift (f := (fun v : ByteArray => k (.str v) [])) (bif_lift (f := (fun v : ByteArray => k (.str v) [])) (bif_lift (f := (fun v : ByteArray => k (.str v) [])) rfl (bif_lift (f := (fun v : ByteArray => k (.str v) [])) rfl (bif_lift (f := (fun v : ByteArray => k (.str v) [])) rfl (bif_lift (f := (fun v : ByteArray => k (.str v) [])) rfl (bif_lift (f := (fun v : ByteArray => k (.str v) [])) rfl (bif_lift (f := (fun v : ByteArray => k (.str v) [])) rfl (bif_lift (f := (fun v : ByteArray => k (.str v) [])) rfl (bif_lift (f := (fun v : ByteArray => k (.str v) [])) rfl (bif_lift (f := (fun v : ByteArray => k (.str v) [])) rfl (bif_lift (f := (fun v : ByteArray => k (.str v) [])) rfl (bif_lift (f := (fun v : ByteArray => k (.str v) [])) rfl (bif_lift (f := (fun v : ByteArray => k (.str v) [])) rfl (bif_lift (f := (fun v : ByteArray => k (.str v) [])) rfl (bif_lift (f := (fun v : ByteArray => k (.str v) [])) rfl (bif_lift (f := (fun v : ByteArray => k (.str v) [])) rfl (bif_lift (f := (fun v : ByteArray => k (.str v) [])) rfl (bif_lift (f := (fun v : ByteArray => k (.str v) [])) rfl (bif_lift (f := (fun v : ByteArray => k (.str v) [])) rfl rfl)))))))))))))))))) (bif_lift (f := (fun v : ByteArray => k (.str v) [])) rfl (bif_lift (f := (fun v : ByteArray => k (.str v) [])) rfl (bif_lift (f := (fun v : ByteArray => k (.str v) [])) rfl (bif_lift (f := (fun v : ByteArray => k (.str v) [])) rfl (bif_lift (f := (fun v : ByteArray => k (.str v) [])) rfl (bif_lift (f := (fun v : ByteArray => k (.str v) [])) rfl (bif_lift (f := (fun v : ByteArray => k (.str v) [])) rfl (bif_lift (f := (fun v : ByteArray => k (.str v) [])) rfl (bif_lift (f := (fun v : ByteArray => k (.str v) [])) rfl (bif_lift (f := (fun v : ByteArray => k (.str v) [])) rfl (bif_lift (f := (fun v : ByteArray => k (.str v) [])) rfl (bif_lift (f := (fun v : ByteArray => k (.str v) [])) rfl (bif_lift (f := (fun v : ByteArray => k (.str v) [])) rfl (bif_lift (f := (fun v : ByteArray => k (.str v) [])) rfl (bif_lift (f := (fun v : ByteArray => k (.str v) [])) rfl (bif_lift (f := (fun v : ByteArray => k (.str v) [])) rfl (bif_lift (f := (fun v : ByteArray => k (.str v) [])) rfl (bif_lift (f := (fun v : ByteArray => k (.str v) [])) rfl (bif_lift (f := (fun v : ByteArray => k (.str v) [])) rfl rfl)))))))))))))))))))) (bif_lift (f := (fun v : ByteArray => k (.str v) [])) (bif_lift (f := (fun v : ByteArray => k (.str v) [])) rfl (bif_lift (f := (fun v : ByteArray => k (.str v) [])) rfl (bif_lift (f := (fun v : ByteArray => k (.str v) [])) rfl (bif_lift (f := (fun v : ByteArray => k (.str v) [])) rfl (bif_lift (f := (fun v : ByteArray => k (.str v) [])) rfl (bif_lift (f := (fun v : ByteArray => k (.str v) [])) rfl (bif_lift (f := (fun v : ByteArray => k (.str v) [])) rfl (bif_lift (f := (fun v : ByteArray => k (.str v) [])) rfl (bif_lift (f := (fun v : ByteArray => k (.str v) [])) rfl (bif_lift (f := (fun v : ByteArray => k (.str v) [])) rfl (bif_lift (f := (fun v : ByteArray => k (.str v) [])) rfl (bif_lift (f := (fun v : ByteArray => k (.str v) [])) rfl (bif_lift (f := (fun v : ByteArray => k (.str v) [])) rfl (bif_lift (f := (fun v : ByteArray => k (.str v) [])) rfl (bif_lift (f := (fun v : ByteArray => k (.str v) [])) rfl (bif_lift (f := (fun v : ByteArray => k (.str v) [])) rfl (bif_lift (f := (fun v : ByteArray => k (.str v) [])) rfl (bif_lift (f := (fun v : ByteArray => k (.str v) [])) rfl (bif_lift (f := (fun v : ByteArray => k (.str v) [])) rfl rfl))))))))))))))))))) (bif_lift (f := (fun v : ByteArray => k (.str v) [])) rfl (bif_lift (f := (fun v : ByteArray => k (.str v) [])) rfl (bif_lift (f := (fun v : ByteArray => k (.str v) [])) rfl (bif_lift (f := (fun v : ByteArray => k (.str v) [])) rfl (bif_lift (f := (fun v : ByteArray => k (.str v) [])) rfl (bif_lift (f := (fun v : ByteArray => k (.str v) [])) rfl (bif_lift (f := (fun v : ByteArray => k (.str v) [])) rfl (bif_lift (f := (fun v : ByteArray => k (.str v) [])) rfl (bif_lift (f := (fun v : ByteArray => k (.str v) [])) rfl (bif_lift (f := (fun v : ByteArray => k (.str v) [])) rfl (bif_lift (f := (fun v : ByteArray => k (.str v) [])) rfl (bif_lift (f := (fun v : ByteArray => k (.str v) [])) rfl (bif_lift (f := (fun v : ByteArray => k (.str v) [])) rfl (bif_lift (f := (fun v : ByteArray => k (.str v) [])) rfl (bif_lift (f := (fun v : ByteArray => k (.str v) [])) rfl (bif_lift (f := (fun v : ByteArray => k (.str v) [])) rfl (bif_lift (f := (fun v : ByteArray => k (.str v) [])) rfl (bif_lift (f := (fun v : ByteArray => k (.str v) [])) rfl (bif_lift (f := (fun v : ByteArray => k (.str v) [])) rfl (bif_lift (f := (fun v : ByteArray => k (.str v) [])) rfl rfl)))))))))))))))))))))))
noncomputable def H33 : Hnd := fun R args σ k => match args, σ with
  | [.agg [.int .i64 target_, .int .i64 util_, .int .i64 stable_, .int .i64 panic_, .int .i64 grain_, .int .i64 threshold_, .int .i64 up_, .int .i64 down_, .int .i64 min_, .int .i64 max_, .int .i64 initial_, .int .i64 grace_, .int .i64 delay_, .int .i64 burst_, .int .i64 limit_, .int .i64 queue_, .int .i64 timeout_, .int .i64 ready_, .int .i64 subset_, .int .i64 sample_]], [] => k (.str (S.wrong ⟨target_, util_, stable_, panic_, grain_, threshold_, up_, down_, min_, max_, initial_, grace_, delay_, burst_, limit_, queue_, timeout_, ready_, subset_, sample_⟩)) []
  | _, _ => none
theorem H33_ok : HndOk Try.prog 33 H33 := hnd_ok tis tisOk mixOk G50_ok F33 Try.func33 rfl (by
  intro R args σ k r h
  unfold H33 at h
  split at h
  · rename_i target_ util_ stable_ panic_ grain_ threshold_ up_ down_ min_ max_ initial_ grace_ delay_ burst_ limit_ queue_ timeout_ ready_ subset_ sample_; exact ⟨40, (S.wrong_v ⟨target_, util_, stable_, panic_, grain_, threshold_, up_, down_, min_, max_, initial_, grace_, delay_, burst_, limit_, queue_, timeout_, ready_, subset_, sample_⟩ _).trans h⟩
  · cases h)
noncomputable def G33 : Env := Env.add 33 H33 G50
theorem G33_ok : EnvOk Try.prog G33 := envAdd_ok H33_ok G50_ok

/-! conf.May -/
def F34 : FCfg := ⟨keepAt [(0, [1]), (1, [2])], loopAt [], []⟩
theorem S.may_k {R : Type} (c : Cf) (k : AVal → List Blk → Option R) : fnEval tis F34 0 G33 Try.f34 [.agg (cfA c)] [] k =
  (k (.bool (Array.toList (ByteArray.data (S.wrong (Cf.mk (Cf.target c) (Cf.util c) (Cf.stable c) (Cf.panic c) (Cf.grain c) (Cf.threshold c) (Cf.up c) (Cf.down c) (Cf.min c) (Cf.max c) (Cf.initial c) (Cf.grace c) (Cf.delay c) (Cf.burst c) (Cf.limit c) (Cf.queue c) (Cf.timeout c) (Cf.ready c) (Cf.subset c) (Cf.sample c)))) == Array.toList (ByteArray.data (bs [])))) ([])) := by kernel_rfl
noncomputable def S.may (c : Cf) : Bool :=
  (Array.toList (ByteArray.data (S.wrong (Cf.mk (Cf.target c) (Cf.util c) (Cf.stable c) (Cf.panic c) (Cf.grain c) (Cf.threshold c) (Cf.up c) (Cf.down c) (Cf.min c) (Cf.max c) (Cf.initial c) (Cf.grace c) (Cf.delay c) (Cf.burst c) (Cf.limit c) (Cf.queue c) (Cf.timeout c) (Cf.ready c) (Cf.subset c) (Cf.sample c)))) == Array.toList (ByteArray.data (bs [])))
theorem S.may_v {R : Type} (c : Cf) (k : AVal → List Blk → Option R) : fnEval tis F34 0 G33 Try.f34 [.agg (cfA c)] [] k = k (.bool (S.may c)) [] :=
  (S.may_k c k).trans rfl
noncomputable def H34 : Hnd := fun R args σ k => match args, σ with
  | [.agg [.int .i64 target_, .int .i64 util_, .int .i64 stable_, .int .i64 panic_, .int .i64 grain_, .int .i64 threshold_, .int .i64 up_, .int .i64 down_, .int .i64 min_, .int .i64 max_, .int .i64 initial_, .int .i64 grace_, .int .i64 delay_, .int .i64 burst_, .int .i64 limit_, .int .i64 queue_, .int .i64 timeout_, .int .i64 ready_, .int .i64 subset_, .int .i64 sample_]], [] => k (.bool (S.may ⟨target_, util_, stable_, panic_, grain_, threshold_, up_, down_, min_, max_, initial_, grace_, delay_, burst_, limit_, queue_, timeout_, ready_, subset_, sample_⟩)) []
  | _, _ => none
theorem H34_ok : HndOk Try.prog 34 H34 := hnd_ok tis tisOk mixOk G33_ok F34 Try.func34 rfl (by
  intro R args σ k r h
  unfold H34 at h
  split at h
  · rename_i target_ util_ stable_ panic_ grain_ threshold_ up_ down_ min_ max_ initial_ grace_ delay_ burst_ limit_ queue_ timeout_ ready_ subset_ sample_; exact ⟨0, (S.may_v ⟨target_, util_, stable_, panic_, grain_, threshold_, up_, down_, min_, max_, initial_, grace_, delay_, burst_, limit_, queue_, timeout_, ready_, subset_, sample_⟩ _).trans h⟩
  · cases h)
noncomputable def G34 : Env := Env.add 34 H34 G33
theorem G34_ok : EnvOk Try.prog G34 := envAdd_ok H34_ok G33_ok
end Go.Proofs.Ytjbdlnomjkhhbaa.AB
