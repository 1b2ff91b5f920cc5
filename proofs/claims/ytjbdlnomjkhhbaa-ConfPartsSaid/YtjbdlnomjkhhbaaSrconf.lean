/- The document's functions of the settings, as plain functions. -/
import Derived.Test.YtjbdlnomjkhhbaaSconf
namespace Go.Proofs.Ytjbdlnomjkhhbaa.AB
set_option linter.unusedVariables false

/-! spinnakerref1.in -/
def F51 : FCfg := ⟨keepAt [(0, [0, 1, 2]), (1, [6])], loopAt [], []⟩
theorem S.rin_k {R : Type} (n lo hi : Int) (k : AVal → List Blk → Option R) : fnEval tis F51 0 G34 Try.f51 [.int .i64 n, .int .i64 lo, .int .i64 hi] [] k =
  (bif decide (lo ≤ n) then
    k (.bool (decide (n ≤ hi))) ([])
  else
    k (.bool false) ([])) := by kernel_rfl
noncomputable def S.rin (n lo hi : Int) : Bool :=
  bif decide (lo ≤ n) then
    (decide (n ≤ hi))
  else
    (false)
theorem S.rin_v {R : Type} (n lo hi : Int) (k : AVal → List Blk → Option R) : fnEval tis F51 0 G34 Try.f51 [.int .i64 n, .int .i64 lo, .int .i64 hi] [] k = k (.bool (S.rin n lo hi)) [] :=
  (S.rin_k n lo hi k).trans (bif_lift (f := (fun v : Bool => k (.bool v) [])) rfl rfl)
noncomputable def H51 : Hnd := fun R args σ k => match args, σ with
  | [.int .i64 n, .int .i64 lo, .int .i64 hi], [] => k (.bool (S.rin n lo hi)) []
  | _, _ => none
theorem H51_ok : HndOk Try.prog 51 H51 := hnd_ok tis tisOk mixOk G34_ok F51 Try.func51 rfl (by
  intro R args σ k r h
  unfold H51 at h
  split at h
  · rename_i n lo hi; exact ⟨0, (S.rin_v n lo hi _).trans h⟩
  · cases h)
noncomputable def G51 : Env := Env.add 51 H51 G34
theorem G51_ok : EnvOk Try.prog G51 := envAdd_ok H51_ok G34_ok

/-! spinnakerref1.Values -/
def F28 : FCfg := ⟨keepAt [(0, [1]), (1, [2])], loopAt [], []⟩
theorem S.rvalues_k {R : Type} (c : Cf) (k : AVal → List Blk → Option R) : fnEval tis F28 0 G51 Try.f28 [.agg (cfA c)] [] k =
  (k (.slice 1 0 0 20 Option.none) ([.rows (Cd.int .i64) [Cf.target c, Cf.util c, Cf.stable c, Cf.panic c, Cf.grain c, Cf.threshold c, Cf.up c, Cf.down c, Cf.min c, Cf.max c, Cf.initial c, Cf.grace c, Cf.delay c, Cf.burst c, Cf.limit c, Cf.queue c, Cf.timeout c, Cf.ready c, Cf.subset c, Cf.sample c] false])) := by kernel_rfl
noncomputable def S.rvalues (c : Cf) : List Int :=
  ([Cf.target c, Cf.util c, Cf.stable c, Cf.panic c, Cf.grain c, Cf.threshold c, Cf.up c, Cf.down c, Cf.min c, Cf.max c, Cf.initial c, Cf.grace c, Cf.delay c, Cf.burst c, Cf.limit c, Cf.queue c, Cf.timeout c, Cf.ready c, Cf.subset c, Cf.sample c])
theorem S.rvalues_v {R : Type} (c : Cf) (k : AVal → List Blk → Option R) : fnEval tis F28 0 G51 Try.f28 [.agg (cfA c)] [] k = k (.slice 1 0 0 20 Option.none) [(.rows (Cd.int .i64) (S.rvalues c) false)] :=
  (S.rvalues_k c k).trans rfl
noncomputable def H28 : Hnd := fun R args σ k => match args, σ with
  | [.agg [.int .i64 target_, .int .i64 util_, .int .i64 stable_, .int .i64 panic_, .int .i64 grain_, .int .i64 threshold_, .int .i64 up_, .int .i64 down_, .int .i64 min_, .int .i64 max_, .int .i64 initial_, .int .i64 grace_, .int .i64 delay_, .int .i64 burst_, .int .i64 limit_, .int .i64 queue_, .int .i64 timeout_, .int .i64 ready_, .int .i64 subset_, .int .i64 sample_]], [] => k (.slice 1 0 0 20 Option.none) [(.rows (Cd.int .i64) (S.rvalues ⟨target_, util_, stable_, panic_, grain_, threshold_, up_, down_, min_, max_, initial_, grace_, delay_, burst_, limit_, queue_, timeout_, ready_, subset_, sample_⟩) false)]
  | _, _ => none
theorem H28_ok : HndOk Try.prog 28 H28 := hnd_ok tis tisOk mixOk G51_ok F28 Try.func28 rfl (by
  intro R args σ k r h
  unfold H28 at h
  split at h
  · rename_i target_ util_ stable_ panic_ grain_ threshold_ up_ down_ min_ max_ initial_ grace_ delay_ burst_ limit_ queue_ timeout_ ready_ subset_ sample_; exact ⟨0, (S.rvalues_v ⟨target_, util_, stable_, panic_, grain_, threshold_, up_, down_, min_, max_, initial_, grace_, delay_, burst_, limit_, queue_, timeout_, ready_, subset_, sample_⟩ _).trans h⟩
  · cases h)
noncomputable def G28 : Env := Env.add 28 H28 G51
theorem G28_ok : EnvOk Try.prog G28 := envAdd_ok H28_ok G51_ok

/-! spinnakerref1.Names -/
def F30 : FCfg := ⟨keepAt [(0, []), (1, [0])], loopAt [], []⟩
theorem S.rnames_k {R : Type}  (k : AVal → List Blk → Option R) : fnEval tis F30 0 G28 Try.f30 [] [] k =
  (k (.slice 1 0 0 20 Option.none) ([.rows Cd.str [bs [116, 97, 114, 103, 101, 116], bs [117, 116, 105, 108], bs [115, 116, 97, 98, 108, 101], bs [112, 97, 110, 105, 99], bs [103, 114, 97, 105, 110], bs [116, 104, 114, 101, 115, 104, 111, 108, 100], bs [117, 112], bs [100, 111, 119, 110], bs [109, 105, 110], bs [109, 97, 120], bs [105, 110, 105, 116, 105, 97, 108], bs [103, 114, 97, 99, 101], bs [100, 101, 108, 97, 121], bs [98, 117, 114, 115, 116], bs [108, 105, 109, 105, 116], bs [113, 117, 101, 117, 101], bs [116, 105, 109, 101, 111, 117, 116], bs [114, 101, 97, 100, 121], bs [115, 117, 98, 115, 101, 116], bs [115, 97, 109, 112, 108, 101]] false])) := by kernel_rfl
noncomputable def S.rnames  : List ByteArray :=
  ([bs [116, 97, 114, 103, 101, 116], bs [117, 116, 105, 108], bs [115, 116, 97, 98, 108, 101], bs [112, 97, 110, 105, 99], bs [103, 114, 97, 105, 110], bs [116, 104, 114, 101, 115, 104, 111, 108, 100], bs [117, 112], bs [100, 111, 119, 110], bs [109, 105, 110], bs [109, 97, 120], bs [105, 110, 105, 116, 105, 97, 108], bs [103, 114, 97, 99, 101], bs [100, 101, 108, 97, 121], bs [98, 117, 114, 115, 116], bs [108, 105, 109, 105, 116], bs [113, 117, 101, 117, 101], bs [116, 105, 109, 101, 111, 117, 116], bs [114, 101, 97, 100, 121], bs [115, 117, 98, 115, 101, 116], bs [115, 97, 109, 112, 108, 101]])
theorem S.rnames_v {R : Type}  (k : AVal → List Blk → Option R) : fnEval tis F30 0 G28 Try.f30 [] [] k = k (.slice 1 0 0 20 Option.none) [(.rows (Cd.str) (S.rnames) false)] :=
  (S.rnames_k k).trans rfl
noncomputable def H30 : Hnd := fun R args σ k => match args, σ with
  | [], [] => k (.slice 1 0 0 20 Option.none) [(.rows (Cd.str) (S.rnames) false)]
  | _, _ => none
theorem H30_ok : HndOk Try.prog 30 H30 := hnd_ok tis tisOk mixOk G28_ok F30 Try.func30 rfl (by
  intro R args σ k r h
  unfold H30 at h
  split at h
  · exact ⟨0, (S.rnames_v _).trans h⟩
  · cases h)
noncomputable def G30 : Env := Env.add 30 H30 G28
theorem G30_ok : EnvOk Try.prog G30 := envAdd_ok H30_ok G28_ok

/-! spinnakerref1.Wrong -/
def F36 : FCfg := ⟨keepAt [(0, [1]), (1, [1, 3]), (2, [1, 3, 4]), (3, [1, 3, 4, 11]), (4, [3, 4]), (5, [5]), (6, [5, 6]), (7, [5, 6, 121]), (8, [5, 6]), (9, [5, 6, 128]), (10, [2]), (11, [2])], loopAt [(7, [5, 6], [])], []⟩
theorem S.rwrong_k {R : Type} (c : Cf) (k : AVal → List Blk → Option R) : fnEval tis F36 40 G30 Try.f36 [.agg (cfA c)] [] k =
  (bif decide (0 < Cf.max c) then
    bif decide (Cf.max c = 0) then
      bif decide (Cf.burst c = -1000) then
        bif !S.rin (Cf.target c) 10 1000000 then
          k (.str (bs [116, 97, 114, 103, 101, 116])) ([])
        else
          bif !S.rin (Cf.util c) 100 1000 then
            k (.str (bs [117, 116, 105, 108])) ([])
          else
            bif !S.rin (Cf.stable c) 6 600 then
              k (.str (bs [115, 116, 97, 98, 108, 101])) ([])
            else
              bif !S.rin (Cf.panic c) 1 (Cf.stable c) then
                k (.str (bs [112, 97, 110, 105, 99])) ([])
              else
                bif !S.rin (Cf.grain c) 1 (Cf.panic c) then
                  k (.str (bs [103, 114, 97, 105, 110])) ([])
                else
                  bif !S.rin (Cf.threshold c) 1100 10000 then
                    k (.str (bs [116, 104, 114, 101, 115, 104, 111, 108, 100])) ([])
                  else
                    bif !S.rin (Cf.up c) 1001 1000000 then
                      k (.str (bs [117, 112])) ([])
                    else
                      bif !S.rin (Cf.down c) 1001 1000000 then
                        k (.str (bs [100, 111, 119, 110])) ([])
                      else
                        bif !S.rin (Cf.min c) 0 100 then
                          k (.str (bs [109, 105, 110])) ([])
                        else
                          bif !S.rin (Cf.initial c) 0 (Cf.max c) then
                            k (.str (bs [105, 110, 105, 116, 105, 97, 108])) ([])
                          else
                            bif !S.rin (Cf.grace c) 0 600 then
                              k (.str (bs [103, 114, 97, 99, 101])) ([])
                            else
                              bif !S.rin (Cf.delay c) 0 600 then
                                k (.str (bs [100, 101, 108, 97, 121])) ([])
                              else
                                bif !S.rin (Cf.limit c) 1 1000 then
                                  k (.str (bs [108, 105, 109, 105, 116])) ([])
                                else
                                  bif !S.rin (Cf.queue c) 0 200 then
                                    k (.str (bs [113, 117, 101, 117, 101])) ([])
                                  else
                                    bif !S.rin (Cf.timeout c) 1 10000 then
                                      k (.str (bs [116, 105, 109, 101, 111, 117, 116])) ([])
                                    else
                                      bif !S.rin (Cf.ready c) 0 100 then
                                        k (.str (bs [114, 101, 97, 100, 121])) ([])
                                      else
                                        bif !S.rin (Cf.subset c) 0 100 then
                                          k (.str (bs [115, 117, 98, 115, 101, 116])) ([])
                                        else
                                          bif !S.rin (Cf.sample c) 0 100 then
                                            k (.str (bs [115, 97, 109, 112, 108, 101])) ([])
                                          else
                                            k (.str (bs [])) ([])
      else
        bif !S.rin (Cf.target c) 10 1000000 then
          k (.str (bs [116, 97, 114, 103, 101, 116])) ([])
        else
          bif !S.rin (Cf.util c) 100 1000 then
            k (.str (bs [117, 116, 105, 108])) ([])
          else
            bif !S.rin (Cf.stable c) 6 600 then
              k (.str (bs [115, 116, 97, 98, 108, 101])) ([])
            else
              bif !S.rin (Cf.panic c) 1 (Cf.stable c) then
                k (.str (bs [112, 97, 110, 105, 99])) ([])
              else
                bif !S.rin (Cf.grain c) 1 (Cf.panic c) then
                  k (.str (bs [103, 114, 97, 105, 110])) ([])
                else
                  bif !S.rin (Cf.threshold c) 1100 10000 then
                    k (.str (bs [116, 104, 114, 101, 115, 104, 111, 108, 100])) ([])
                  else
                    bif !S.rin (Cf.up c) 1001 1000000 then
                      k (.str (bs [117, 112])) ([])
                    else
                      bif !S.rin (Cf.down c) 1001 1000000 then
                        k (.str (bs [100, 111, 119, 110])) ([])
                      else
                        bif !S.rin (Cf.min c) 0 100 then
                          k (.str (bs [109, 105, 110])) ([])
                        else
                          bif !S.rin (Cf.initial c) 0 (Cf.max c) then
                            k (.str (bs [105, 110, 105, 116, 105, 97, 108])) ([])
                          else
                            bif !S.rin (Cf.grace c) 0 600 then
                              k (.str (bs [103, 114, 97, 99, 101])) ([])
                            else
                              bif !S.rin (Cf.delay c) 0 600 then
                                k (.str (bs [100, 101, 108, 97, 121])) ([])
                              else
                                bif !S.rin (Cf.burst c) 0 100000000 then
                                  k (.str (bs [98, 117, 114, 115, 116])) ([])
                                else
                                  bif !S.rin (Cf.limit c) 1 1000 then
                                    k (.str (bs [108, 105, 109, 105, 116])) ([])
                                  else
                                    bif !S.rin (Cf.queue c) 0 200 then
                                      k (.str (bs [113, 117, 101, 117, 101])) ([])
                                    else
                                      bif !S.rin (Cf.timeout c) 1 10000 then
                                        k (.str (bs [116, 105, 109, 101, 111, 117, 116])) ([])
                                      else
                                        bif !S.rin (Cf.ready c) 0 100 then
                                          k (.str (bs [114, 101, 97, 100, 121])) ([])
                                        else
                                          bif !S.rin (Cf.subset c) 0 100 then
                                            k (.str (bs [115, 117, 98, 115, 101, 116])) ([])
                                          else
                                            bif !S.rin (Cf.sample c) 0 100 then
                                              k (.str (bs [115, 97, 109, 112, 108, 101])) ([])
                                            else
                                              k (.str (bs [])) ([])
    else
      bif decide (Cf.burst c = -1000) then
        bif !S.rin (Cf.target c) 10 1000000 then
          k (.str (bs [116, 97, 114, 103, 101, 116])) ([])
        else
          bif !S.rin (Cf.util c) 100 1000 then
            k (.str (bs [117, 116, 105, 108])) ([])
          else
            bif !S.rin (Cf.stable c) 6 600 then
              k (.str (bs [115, 116, 97, 98, 108, 101])) ([])
            else
              bif !S.rin (Cf.panic c) 1 (Cf.stable c) then
                k (.str (bs [112, 97, 110, 105, 99])) ([])
              else
                bif !S.rin (Cf.grain c) 1 (Cf.panic c) then
                  k (.str (bs [103, 114, 97, 105, 110])) ([])
                else
                  bif !S.rin (Cf.threshold c) 1100 10000 then
                    k (.str (bs [116, 104, 114, 101, 115, 104, 111, 108, 100])) ([])
                  else
                    bif !S.rin (Cf.up c) 1001 1000000 then
                      k (.str (bs [117, 112])) ([])
                    else
                      bif !S.rin (Cf.down c) 1001 1000000 then
                        k (.str (bs [100, 111, 119, 110])) ([])
                      else
                        bif !S.rin (Cf.min c) 0 100 then
                          k (.str (bs [109, 105, 110])) ([])
                        else
                          bif !S.rin (Cf.max c) (if 1 > Cf.min c then 1 else Cf.min c) 100 then
                            k (.str (bs [109, 97, 120])) ([])
                          else
                            bif !S.rin (Cf.initial c) 0 (Cf.max c) then
                              k (.str (bs [105, 110, 105, 116, 105, 97, 108])) ([])
                            else
                              bif !S.rin (Cf.grace c) 0 600 then
                                k (.str (bs [103, 114, 97, 99, 101])) ([])
                              else
                                bif !S.rin (Cf.delay c) 0 600 then
                                  k (.str (bs [100, 101, 108, 97, 121])) ([])
                                else
                                  bif !S.rin (Cf.limit c) 1 1000 then
                                    k (.str (bs [108, 105, 109, 105, 116])) ([])
                                  else
                                    bif !S.rin (Cf.queue c) 0 200 then
                                      k (.str (bs [113, 117, 101, 117, 101])) ([])
                                    else
                                      bif !S.rin (Cf.timeout c) 1 10000 then
                                        k (.str (bs [116, 105, 109, 101, 111, 117, 116])) ([])
                                      else
                                        bif !S.rin (Cf.ready c) 0 100 then
                                          k (.str (bs [114, 101, 97, 100, 121])) ([])
                                        else
                                          bif !S.rin (Cf.subset c) 0 100 then
                                            k (.str (bs [115, 117, 98, 115, 101, 116])) ([])
                                          else
                                            bif !S.rin (Cf.sample c) 0 100 then
                                              k (.str (bs [115, 97, 109, 112, 108, 101])) ([])
                                            else
                                              k (.str (bs [])) ([])
      else
        bif !S.rin (Cf.target c) 10 1000000 then
          k (.str (bs [116, 97, 114, 103, 101, 116])) ([])
        else
          bif !S.rin (Cf.util c) 100 1000 then
            k (.str (bs [117, 116, 105, 108])) ([])
          else
            bif !S.rin (Cf.stable c) 6 600 then
              k (.str (bs [115, 116, 97, 98, 108, 101])) ([])
            else
              bif !S.rin (Cf.panic c) 1 (Cf.stable c) then
                k (.str (bs [112, 97, 110, 105, 99])) ([])
              else
                bif !S.rin (Cf.grain c) 1 (Cf.panic c) then
                  k (.str (bs [103, 114, 97, 105, 110])) ([])
                else
                  bif !S.rin (Cf.threshold c) 1100 10000 then
                    k (.str (bs [116, 104, 114, 101, 115, 104, 111, 108, 100])) ([])
                  else
                    bif !S.rin (Cf.up c) 1001 1000000 then
                      k (.str (bs [117, 112])) ([])
                    else
                      bif !S.rin (Cf.down c) 1001 1000000 then
                        k (.str (bs [100, 111, 119, 110])) ([])
                      else
                        bif !S.rin (Cf.min c) 0 100 then
                          k (.str (bs [109, 105, 110])) ([])
                        else
                          bif !S.rin (Cf.max c) (if 1 > Cf.min c then 1 else Cf.min c) 100 then
                            k (.str (bs [109, 97, 120])) ([])
                          else
                            bif !S.rin (Cf.initial c) 0 (Cf.max c) then
                              k (.str (bs [105, 110, 105, 116, 105, 97, 108])) ([])
                            else
                              bif !S.rin (Cf.grace c) 0 600 then
                                k (.str (bs [103, 114, 97, 99, 101])) ([])
                              else
                                bif !S.rin (Cf.delay c) 0 600 then
                                  k (.str (bs [100, 101, 108, 97, 121])) ([])
                                else
                                  bif !S.rin (Cf.burst c) 0 100000000 then
                                    k (.str (bs [98, 117, 114, 115, 116])) ([])
                                  else
                                    bif !S.rin (Cf.limit c) 1 1000 then
                                      k (.str (bs [108, 105, 109, 105, 116])) ([])
                                    else
                                      bif !S.rin (Cf.queue c) 0 200 then
                                        k (.str (bs [113, 117, 101, 117, 101])) ([])
                                      else
                                        bif !S.rin (Cf.timeout c) 1 10000 then
                                          k (.str (bs [116, 105, 109, 101, 111, 117, 116])) ([])
                                        else
                                          bif !S.rin (Cf.ready c) 0 100 then
                                            k (.str (bs [114, 101, 97, 100, 121])) ([])
                                          else
                                            bif !S.rin (Cf.subset c) 0 100 then
                                              k (.str (bs [115, 117, 98, 115, 101, 116])) ([])
                                            else
                                              bif !S.rin (Cf.sample c) 0 100 then
                                                k (.str (bs [115, 97, 109, 112, 108, 101])) ([])
                                              else
                                                k (.str (bs [])) ([])
  else
    bif decide (Cf.max c = 0) then
      bif decide (Cf.burst c = -1000) then
        bif !S.rin (Cf.target c) 10 1000000 then
          k (.str (bs [116, 97, 114, 103, 101, 116])) ([])
        else
          bif !S.rin (Cf.util c) 100 1000 then
            k (.str (bs [117, 116, 105, 108])) ([])
          else
            bif !S.rin (Cf.stable c) 6 600 then
              k (.str (bs [115, 116, 97, 98, 108, 101])) ([])
            else
              bif !S.rin (Cf.panic c) 1 (Cf.stable c) then
                k (.str (bs [112, 97, 110, 105, 99])) ([])
              else
                bif !S.rin (Cf.grain c) 1 (Cf.panic c) then
                  k (.str (bs [103, 114, 97, 105, 110])) ([])
                else
                  bif !S.rin (Cf.threshold c) 1100 10000 then
                    k (.str (bs [116, 104, 114, 101, 115, 104, 111, 108, 100])) ([])
                  else
                    bif !S.rin (Cf.up c) 1001 1000000 then
                      k (.str (bs [117, 112])) ([])
                    else
                      bif !S.rin (Cf.down c) 1001 1000000 then
                        k (.str (bs [100, 111, 119, 110])) ([])
                      else
                        bif !S.rin (Cf.min c) 0 100 then
                          k (.str (bs [109, 105, 110])) ([])
                        else
                          bif !S.rin (Cf.initial c) 0 100 then
                            k (.str (bs [105, 110, 105, 116, 105, 97, 108])) ([])
                          else
                            bif !S.rin (Cf.grace c) 0 600 then
                              k (.str (bs [103, 114, 97, 99, 101])) ([])
                            else
                              bif !S.rin (Cf.delay c) 0 600 then
                                k (.str (bs [100, 101, 108, 97, 121])) ([])
                              else
                                bif !S.rin (Cf.limit c) 1 1000 then
                                  k (.str (bs [108, 105, 109, 105, 116])) ([])
                                else
                                  bif !S.rin (Cf.queue c) 0 200 then
                                    k (.str (bs [113, 117, 101, 117, 101])) ([])
                                  else
                                    bif !S.rin (Cf.timeout c) 1 10000 then
                                      k (.str (bs [116, 105, 109, 101, 111, 117, 116])) ([])
                                    else
                                      bif !S.rin (Cf.ready c) 0 100 then
                                        k (.str (bs [114, 101, 97, 100, 121])) ([])
                                      else
                                        bif !S.rin (Cf.subset c) 0 100 then
                                          k (.str (bs [115, 117, 98, 115, 101, 116])) ([])
                                        else
                                          bif !S.rin (Cf.sample c) 0 100 then
                                            k (.str (bs [115, 97, 109, 112, 108, 101])) ([])
                                          else
                                            k (.str (bs [])) ([])
      else
        bif !S.rin (Cf.target c) 10 1000000 then
          k (.str (bs [116, 97, 114, 103, 101, 116])) ([])
        else
          bif !S.rin (Cf.util c) 100 1000 then
            k (.str (bs [117, 116, 105, 108])) ([])
          else
            bif !S.rin (Cf.stable c) 6 600 then
              k (.str (bs [115, 116, 97, 98, 108, 101])) ([])
            else
              bif !S.rin (Cf.panic c) 1 (Cf.stable c) then
                k (.str (bs [112, 97, 110, 105, 99])) ([])
              else
                bif !S.rin (Cf.grain c) 1 (Cf.panic c) then
                  k (.str (bs [103, 114, 97, 105, 110])) ([])
                else
                  bif !S.rin (Cf.threshold c) 1100 10000 then
                    k (.str (bs [116, 104, 114, 101, 115, 104, 111, 108, 100])) ([])
                  else
                    bif !S.rin (Cf.up c) 1001 1000000 then
                      k (.str (bs [117, 112])) ([])
                    else
                      bif !S.rin (Cf.down c) 1001 1000000 then
                        k (.str (bs [100, 111, 119, 110])) ([])
                      else
                        bif !S.rin (Cf.min c) 0 100 then
                          k (.str (bs [109, 105, 110])) ([])
                        else
                          bif !S.rin (Cf.initial c) 0 100 then
                            k (.str (bs [105, 110, 105, 116, 105, 97, 108])) ([])
                          else
                            bif !S.rin (Cf.grace c) 0 600 then
                              k (.str (bs [103, 114, 97, 99, 101])) ([])
                            else
                              bif !S.rin (Cf.delay c) 0 600 then
                                k (.str (bs [100, 101, 108, 97, 121])) ([])
                              else
                                bif !S.rin (Cf.burst c) 0 100000000 then
                                  k (.str (bs [98, 117, 114, 115, 116])) ([])
                                else
                                  bif !S.rin (Cf.limit c) 1 1000 then
                                    k (.str (bs [108, 105, 109, 105, 116])) ([])
                                  else
                                    bif !S.rin (Cf.queue c) 0 200 then
                                      k (.str (bs [113, 117, 101, 117, 101])) ([])
                                    else
                                      bif !S.rin (Cf.timeout c) 1 10000 then
                                        k (.str (bs [116, 105, 109, 101, 111, 117, 116])) ([])
                                      else
                                        bif !S.rin (Cf.ready c) 0 100 then
                                          k (.str (bs [114, 101, 97, 100, 121])) ([])
                                        else
                                          bif !S.rin (Cf.subset c) 0 100 then
                                            k (.str (bs [115, 117, 98, 115, 101, 116])) ([])
                                          else
                                            bif !S.rin (Cf.sample c) 0 100 then
                                              k (.str (bs [115, 97, 109, 112, 108, 101])) ([])
                                            else
                                              k (.str (bs [])) ([])
    else
      bif decide (Cf.burst c = -1000) then
        bif !S.rin (Cf.target c) 10 1000000 then
          k (.str (bs [116, 97, 114, 103, 101, 116])) ([])
        else
          bif !S.rin (Cf.util c) 100 1000 then
            k (.str (bs [117, 116, 105, 108])) ([])
          else
            bif !S.rin (Cf.stable c) 6 600 then
              k (.str (bs [115, 116, 97, 98, 108, 101])) ([])
            else
              bif !S.rin (Cf.panic c) 1 (Cf.stable c) then
                k (.str (bs [112, 97, 110, 105, 99])) ([])
              else
                bif !S.rin (Cf.grain c) 1 (Cf.panic c) then
                  k (.str (bs [103, 114, 97, 105, 110])) ([])
                else
                  bif !S.rin (Cf.threshold c) 1100 10000 then
                    k (.str (bs [116, 104, 114, 101, 115, 104, 111, 108, 100])) ([])
                  else
                    bif !S.rin (Cf.up c) 1001 1000000 then
                      k (.str (bs [117, 112])) ([])
                    else
                      bif !S.rin (Cf.down c) 1001 1000000 then
                        k (.str (bs [100, 111, 119, 110])) ([])
                      else
                        bif !S.rin (Cf.min c) 0 100 then
                          k (.str (bs [109, 105, 110])) ([])
                        else
                          bif !S.rin (Cf.max c) (if 1 > Cf.min c then 1 else Cf.min c) 100 then
                            k (.str (bs [109, 97, 120])) ([])
                          else
                            bif !S.rin (Cf.initial c) 0 100 then
                              k (.str (bs [105, 110, 105, 116, 105, 97, 108])) ([])
                            else
                              bif !S.rin (Cf.grace c) 0 600 then
                                k (.str (bs [103, 114, 97, 99, 101])) ([])
                              else
                                bif !S.rin (Cf.delay c) 0 600 then
                                  k (.str (bs [100, 101, 108, 97, 121])) ([])
                                else
                                  bif !S.rin (Cf.limit c) 1 1000 then
                                    k (.str (bs [108, 105, 109, 105, 116])) ([])
                                  else
                                    bif !S.rin (Cf.queue c) 0 200 then
                                      k (.str (bs [113, 117, 101, 117, 101])) ([])
                                    else
                                      bif !S.rin (Cf.timeout c) 1 10000 then
                                        k (.str (bs [116, 105, 109, 101, 111, 117, 116])) ([])
                                      else
                                        bif !S.rin (Cf.ready c) 0 100 then
                                          k (.str (bs [114, 101, 97, 100, 121])) ([])
                                        else
                                          bif !S.rin (Cf.subset c) 0 100 then
                                            k (.str (bs [115, 117, 98, 115, 101, 116])) ([])
                                          else
                                            bif !S.rin (Cf.sample c) 0 100 then
                                              k (.str (bs [115, 97, 109, 112, 108, 101])) ([])
                                            else
                                              k (.str (bs [])) ([])
      else
        bif !S.rin (Cf.target c) 10 1000000 then
          k (.str (bs [116, 97, 114, 103, 101, 116])) ([])
        else
          bif !S.rin (Cf.util c) 100 1000 then
            k (.str (bs [117, 116, 105, 108])) ([])
          else
            bif !S.rin (Cf.stable c) 6 600 then
              k (.str (bs [115, 116, 97, 98, 108, 101])) ([])
            else
              bif !S.rin (Cf.panic c) 1 (Cf.stable c) then
                k (.str (bs [112, 97, 110, 105, 99])) ([])
              else
                bif !S.rin (Cf.grain c) 1 (Cf.panic c) then
                  k (.str (bs [103, 114, 97, 105, 110])) ([])
                else
                  bif !S.rin (Cf.threshold c) 1100 10000 then
                    k (.str (bs [116, 104, 114, 101, 115, 104, 111, 108, 100])) ([])
                  else
                    bif !S.rin (Cf.up c) 1001 1000000 then
                      k (.str (bs [117, 112])) ([])
                    else
                      bif !S.rin (Cf.down c) 1001 1000000 then
                        k (.str (bs [100, 111, 119, 110])) ([])
                      else
                        bif !S.rin (Cf.min c) 0 100 then
                          k (.str (bs [109, 105, 110])) ([])
                        else
                          bif !S.rin (Cf.max c) (if 1 > Cf.min c then 1 else Cf.min c) 100 then
                            k (.str (bs [109, 97, 120])) ([])
                          else
                            bif !S.rin (Cf.initial c) 0 100 then
                              k (.str (bs [105, 110, 105, 116, 105, 97, 108])) ([])
                            else
                              bif !S.rin (Cf.grace c) 0 600 then
                                k (.str (bs [103, 114, 97, 99, 101])) ([])
                              else
                                bif !S.rin (Cf.delay c) 0 600 then
                                  k (.str (bs [100, 101, 108, 97, 121])) ([])
                                else
                                  bif !S.rin (Cf.burst c) 0 100000000 then
                                    k (.str (bs [98, 117, 114, 115, 116])) ([])
                                  else
                                    bif !S.rin (Cf.limit c) 1 1000 then
                                      k (.str (bs [108, 105, 109, 105, 116])) ([])
                                    else
                                      bif !S.rin (Cf.queue c) 0 200 then
                                        k (.str (bs [113, 117, 101, 117, 101])) ([])
                                      else
                                        bif !S.rin (Cf.timeout c) 1 10000 then
                                          k (.str (bs [116, 105, 109, 101, 111, 117, 116])) ([])
                                        else
                                          bif !S.rin (Cf.ready c) 0 100 then
                                            k (.str (bs [114, 101, 97, 100, 121])) ([])
                                          else
                                            bif !S.rin (Cf.subset c) 0 100 then
                                              k (.str (bs [115, 117, 98, 115, 101, 116])) ([])
                                            else
                                              bif !S.rin (Cf.sample c) 0 100 then
                                                k (.str (bs [115, 97, 109, 112, 108, 101])) ([])
                                              else
                                                k (.str (bs [])) ([])) := by kernel_rfl
noncomputable def S.rwrong (c : Cf) : ByteArray :=
  bif decide (0 < Cf.max c) then
    bif decide (Cf.max c = 0) then
      bif decide (Cf.burst c = -1000) then
        bif !S.rin (Cf.target c) 10 1000000 then
          (bs [116, 97, 114, 103, 101, 116])
        else
          bif !S.rin (Cf.util c) 100 1000 then
            (bs [117, 116, 105, 108])
          else
            bif !S.rin (Cf.stable c) 6 600 then
              (bs [115, 116, 97, 98, 108, 101])
            else
              bif !S.rin (Cf.panic c) 1 (Cf.stable c) then
                (bs [112, 97, 110, 105, 99])
              else
                bif !S.rin (Cf.grain c) 1 (Cf.panic c) then
                  (bs [103, 114, 97, 105, 110])
                else
                  bif !S.rin (Cf.threshold c) 1100 10000 then
                    (bs [116, 104, 114, 101, 115, 104, 111, 108, 100])
                  else
                    bif !S.rin (Cf.up c) 1001 1000000 then
                      (bs [117, 112])
                    else
                      bif !S.rin (Cf.down c) 1001 1000000 then
                        (bs [100, 111, 119, 110])
                      else
                        bif !S.rin (Cf.min c) 0 100 then
                          (bs [109, 105, 110])
                        else
                          bif !S.rin (Cf.initial c) 0 (Cf.max c) then
                            (bs [105, 110, 105, 116, 105, 97, 108])
                          else
                            bif !S.rin (Cf.grace c) 0 600 then
                              (bs [103, 114, 97, 99, 101])
                            else
                              bif !S.rin (Cf.delay c) 0 600 then
                                (bs [100, 101, 108, 97, 121])
                              else
                                bif !S.rin (Cf.limit c) 1 1000 then
                                  (bs [108, 105, 109, 105, 116])
                                else
                                  bif !S.rin (Cf.queue c) 0 200 then
                                    (bs [113, 117, 101, 117, 101])
                                  else
                                    bif !S.rin (Cf.timeout c) 1 10000 then
                                      (bs [116, 105, 109, 101, 111, 117, 116])
                                    else
                                      bif !S.rin (Cf.ready c) 0 100 then
                                        (bs [114, 101, 97, 100, 121])
                                      else
                                        bif !S.rin (Cf.subset c) 0 100 then
                                          (bs [115, 117, 98, 115, 101, 116])
                                        else
                                          bif !S.rin (Cf.sample c) 0 100 then
                                            (bs [115, 97, 109, 112, 108, 101])
                                          else
                                            (bs [])
      else
        bif !S.rin (Cf.target c) 10 1000000 then
          (bs [116, 97, 114, 103, 101, 116])
        else
          bif !S.rin (Cf.util c) 100 1000 then
            (bs [117, 116, 105, 108])
          else
            bif !S.rin (Cf.stable c) 6 600 then
              (bs [115, 116, 97, 98, 108, 101])
            else
              bif !S.rin (Cf.panic c) 1 (Cf.stable c) then
                (bs [112, 97, 110, 105, 99])
              else
                bif !S.rin (Cf.grain c) 1 (Cf.panic c) then
                  (bs [103, 114, 97, 105, 110])
                else
                  bif !S.rin (Cf.threshold c) 1100 10000 then
                    (bs [116, 104, 114, 101, 115, 104, 111, 108, 100])
                  else
                    bif !S.rin (Cf.up c) 1001 1000000 then
                      (bs [117, 112])
                    else
                      bif !S.rin (Cf.down c) 1001 1000000 then
                        (bs [100, 111, 119, 110])
                      else
                        bif !S.rin (Cf.min c) 0 100 then
                          (bs [109, 105, 110])
                        else
                          bif !S.rin (Cf.initial c) 0 (Cf.max c) then
                            (bs [105, 110, 105, 116, 105, 97, 108])
                          else
                            bif !S.rin (Cf.grace c) 0 600 then
                              (bs [103, 114, 97, 99, 101])
                            else
                              bif !S.rin (Cf.delay c) 0 600 then
                                (bs [100, 101, 108, 97, 121])
                              else
                                bif !S.rin (Cf.burst c) 0 100000000 then
                                  (bs [98, 117, 114, 115, 116])
                                else
                                  bif !S.rin (Cf.limit c) 1 1000 then
                                    (bs [108, 105, 109, 105, 116])
                                  else
                                    bif !S.rin (Cf.queue c) 0 200 then
                                      (bs [113, 117, 101, 117, 101])
                                    else
                                      bif !S.rin (Cf.timeout c) 1 10000 then
                                        (bs [116, 105, 109, 101, 111, 117, 116])
                                      else
                                        bif !S.rin (Cf.ready c) 0 100 then
                                          (bs [114, 101, 97, 100, 121])
                                        else
                                          bif !S.rin (Cf.subset c) 0 100 then
                                            (bs [115, 117, 98, 115, 101, 116])
                                          else
                                            bif !S.rin (Cf.sample c) 0 100 then
                                              (bs [115, 97, 109, 112, 108, 101])
                                            else
                                              (bs [])
    else
      bif decide (Cf.burst c = -1000) then
        bif !S.rin (Cf.target c) 10 1000000 then
          (bs [116, 97, 114, 103, 101, 116])
        else
          bif !S.rin (Cf.util c) 100 1000 then
            (bs [117, 116, 105, 108])
          else
            bif !S.rin (Cf.stable c) 6 600 then
              (bs [115, 116, 97, 98, 108, 101])
            else
              bif !S.rin (Cf.panic c) 1 (Cf.stable c) then
                (bs [112, 97, 110, 105, 99])
              else
                bif !S.rin (Cf.grain c) 1 (Cf.panic c) then
                  (bs [103, 114, 97, 105, 110])
                else
                  bif !S.rin (Cf.threshold c) 1100 10000 then
                    (bs [116, 104, 114, 101, 115, 104, 111, 108, 100])
                  else
                    bif !S.rin (Cf.up c) 1001 1000000 then
                      (bs [117, 112])
                    else
                      bif !S.rin (Cf.down c) 1001 1000000 then
                        (bs [100, 111, 119, 110])
                      else
                        bif !S.rin (Cf.min c) 0 100 then
                          (bs [109, 105, 110])
                        else
                          bif !S.rin (Cf.max c) (if 1 > Cf.min c then 1 else Cf.min c) 100 then
                            (bs [109, 97, 120])
                          else
                            bif !S.rin (Cf.initial c) 0 (Cf.max c) then
                              (bs [105, 110, 105, 116, 105, 97, 108])
                            else
                              bif !S.rin (Cf.grace c) 0 600 then
                                (bs [103, 114, 97, 99, 101])
                              else
                                bif !S.rin (Cf.delay c) 0 600 then
                                  (bs [100, 101, 108, 97, 121])
                                else
                                  bif !S.rin (Cf.limit c) 1 1000 then
                                    (bs [108, 105, 109, 105, 116])
                                  else
                                    bif !S.rin (Cf.queue c) 0 200 then
                                      (bs [113, 117, 101, 117, 101])
                                    else
                                      bif !S.rin (Cf.timeout c) 1 10000 then
                                        (bs [116, 105, 109, 101, 111, 117, 116])
                                      else
                                        bif !S.rin (Cf.ready c) 0 100 then
                                          (bs [114, 101, 97, 100, 121])
                                        else
                                          bif !S.rin (Cf.subset c) 0 100 then
                                            (bs [115, 117, 98, 115, 101, 116])
                                          else
                                            bif !S.rin (Cf.sample c) 0 100 then
                                              (bs [115, 97, 109, 112, 108, 101])
                                            else
                                              (bs [])
      else
        bif !S.rin (Cf.target c) 10 1000000 then
          (bs [116, 97, 114, 103, 101, 116])
        else
          bif !S.rin (Cf.util c) 100 1000 then
            (bs [117, 116, 105, 108])
          else
            bif !S.rin (Cf.stable c) 6 600 then
              (bs [115, 116, 97, 98, 108, 101])
            else
              bif !S.rin (Cf.panic c) 1 (Cf.stable c) then
                (bs [112, 97, 110, 105, 99])
              else
                bif !S.rin (Cf.grain c) 1 (Cf.panic c) then
                  (bs [103, 114, 97, 105, 110])
                else
                  bif !S.rin (Cf.threshold c) 1100 10000 then
                    (bs [116, 104, 114, 101, 115, 104, 111, 108, 100])
                  else
                    bif !S.rin (Cf.up c) 1001 1000000 then
                      (bs [117, 112])
                    else
                      bif !S.rin (Cf.down c) 1001 1000000 then
                        (bs [100, 111, 119, 110])
                      else
                        bif !S.rin (Cf.min c) 0 100 then
                          (bs [109, 105, 110])
                        else
                          bif !S.rin (Cf.max c) (if 1 > Cf.min c then 1 else Cf.min c) 100 then
                            (bs [109, 97, 120])
                          else
                            bif !S.rin (Cf.initial c) 0 (Cf.max c) then
                              (bs [105, 110, 105, 116, 105, 97, 108])
                            else
                              bif !S.rin (Cf.grace c) 0 600 then
                                (bs [103, 114, 97, 99, 101])
                              else
                                bif !S.rin (Cf.delay c) 0 600 then
                                  (bs [100, 101, 108, 97, 121])
                                else
                                  bif !S.rin (Cf.burst c) 0 100000000 then
                                    (bs [98, 117, 114, 115, 116])
                                  else
                                    bif !S.rin (Cf.limit c) 1 1000 then
                                      (bs [108, 105, 109, 105, 116])
                                    else
                                      bif !S.rin (Cf.queue c) 0 200 then
                                        (bs [113, 117, 101, 117, 101])
                                      else
                                        bif !S.rin (Cf.timeout c) 1 10000 then
                                          (bs [116, 105, 109, 101, 111, 117, 116])
                                        else
                                          bif !S.rin (Cf.ready c) 0 100 then
                                            (bs [114, 101, 97, 100, 121])
                                          else
                                            bif !S.rin (Cf.subset c) 0 100 then
                                              (bs [115, 117, 98, 115, 101, 116])
                                            else
                                              bif !S.rin (Cf.sample c) 0 100 then
                                                (bs [115, 97, 109, 112, 108, 101])
                                              else
                                                (bs [])
  else
    bif decide (Cf.max c = 0) then
      bif decide (Cf.burst c = -1000) then
        bif !S.rin (Cf.target c) 10 1000000 then
          (bs [116, 97, 114, 103, 101, 116])
        else
          bif !S.rin (Cf.util c) 100 1000 then
            (bs [117, 116, 105, 108])
          else
            bif !S.rin (Cf.stable c) 6 600 then
              (bs [115, 116, 97, 98, 108, 101])
            else
              bif !S.rin (Cf.panic c) 1 (Cf.stable c) then
                (bs [112, 97, 110, 105, 99])
              else
                bif !S.rin (Cf.grain c) 1 (Cf.panic c) then
                  (bs [103, 114, 97, 105, 110])
                else
                  bif !S.rin (Cf.threshold c) 1100 10000 then
                    (bs [116, 104, 114, 101, 115, 104, 111, 108, 100])
                  else
                    bif !S.rin (Cf.up c) 1001 1000000 then
                      (bs [117, 112])
                    else
                      bif !S.rin (Cf.down c) 1001 1000000 then
                        (bs [100, 111, 119, 110])
                      else
                        bif !S.rin (Cf.min c) 0 100 then
                          (bs [109, 105, 110])
                        else
                          bif !S.rin (Cf.initial c) 0 100 then
                            (bs [105, 110, 105, 116, 105, 97, 108])
                          else
                            bif !S.rin (Cf.grace c) 0 600 then
                              (bs [103, 114, 97, 99, 101])
                            else
                              bif !S.rin (Cf.delay c) 0 600 then
                                (bs [100, 101, 108, 97, 121])
                              else
                                bif !S.rin (Cf.limit c) 1 1000 then
                                  (bs [108, 105, 109, 105, 116])
                                else
                                  bif !S.rin (Cf.queue c) 0 200 then
                                    (bs [113, 117, 101, 117, 101])
                                  else
                                    bif !S.rin (Cf.timeout c) 1 10000 then
                                      (bs [116, 105, 109, 101, 111, 117, 116])
                                    else
                                      bif !S.rin (Cf.ready c) 0 100 then
                                        (bs [114, 101, 97, 100, 121])
                                      else
                                        bif !S.rin (Cf.subset c) 0 100 then
                                          (bs [115, 117, 98, 115, 101, 116])
                                        else
                                          bif !S.rin (Cf.sample c) 0 100 then
                                            (bs [115, 97, 109, 112, 108, 101])
                                          else
                                            (bs [])
      else
        bif !S.rin (Cf.target c) 10 1000000 then
          (bs [116, 97, 114, 103, 101, 116])
        else
          bif !S.rin (Cf.util c) 100 1000 then
            (bs [117, 116, 105, 108])
          else
            bif !S.rin (Cf.stable c) 6 600 then
              (bs [115, 116, 97, 98, 108, 101])
            else
              bif !S.rin (Cf.panic c) 1 (Cf.stable c) then
                (bs [112, 97, 110, 105, 99])
              else
                bif !S.rin (Cf.grain c) 1 (Cf.panic c) then
                  (bs [103, 114, 97, 105, 110])
                else
                  bif !S.rin (Cf.threshold c) 1100 10000 then
                    (bs [116, 104, 114, 101, 115, 104, 111, 108, 100])
                  else
                    bif !S.rin (Cf.up c) 1001 1000000 then
                      (bs [117, 112])
                    else
                      bif !S.rin (Cf.down c) 1001 1000000 then
                        (bs [100, 111, 119, 110])
                      else
                        bif !S.rin (Cf.min c) 0 100 then
                          (bs [109, 105, 110])
                        else
                          bif !S.rin (Cf.initial c) 0 100 then
                            (bs [105, 110, 105, 116, 105, 97, 108])
                          else
                            bif !S.rin (Cf.grace c) 0 600 then
                              (bs [103, 114, 97, 99, 101])
                            else
                              bif !S.rin (Cf.delay c) 0 600 then
                                (bs [100, 101, 108, 97, 121])
                              else
                                bif !S.rin (Cf.burst c) 0 100000000 then
                                  (bs [98, 117, 114, 115, 116])
                                else
                                  bif !S.rin (Cf.limit c) 1 1000 then
                                    (bs [108, 105, 109, 105, 116])
                                  else
                                    bif !S.rin (Cf.queue c) 0 200 then
                                      (bs [113, 117, 101, 117, 101])
                                    else
                                      bif !S.rin (Cf.timeout c) 1 10000 then
                                        (bs [116, 105, 109, 101, 111, 117, 116])
                                      else
                                        bif !S.rin (Cf.ready c) 0 100 then
                                          (bs [114, 101, 97, 100, 121])
                                        else
                                          bif !S.rin (Cf.subset c) 0 100 then
                                            (bs [115, 117, 98, 115, 101, 116])
                                          else
                                            bif !S.rin (Cf.sample c) 0 100 then
                                              (bs [115, 97, 109, 112, 108, 101])
                                            else
                                              (bs [])
    else
      bif decide (Cf.burst c = -1000) then
        bif !S.rin (Cf.target c) 10 1000000 then
          (bs [116, 97, 114, 103, 101, 116])
        else
          bif !S.rin (Cf.util c) 100 1000 then
            (bs [117, 116, 105, 108])
          else
            bif !S.rin (Cf.stable c) 6 600 then
              (bs [115, 116, 97, 98, 108, 101])
            else
              bif !S.rin (Cf.panic c) 1 (Cf.stable c) then
                (bs [112, 97, 110, 105, 99])
              else
                bif !S.rin (Cf.grain c) 1 (Cf.panic c) then
                  (bs [103, 114, 97, 105, 110])
                else
                  bif !S.rin (Cf.threshold c) 1100 10000 then
                    (bs [116, 104, 114, 101, 115, 104, 111, 108, 100])
                  else
                    bif !S.rin (Cf.up c) 1001 1000000 then
                      (bs [117, 112])
                    else
                      bif !S.rin (Cf.down c) 1001 1000000 then
                        (bs [100, 111, 119, 110])
                      else
                        bif !S.rin (Cf.min c) 0 100 then
                          (bs [109, 105, 110])
                        else
                          bif !S.rin (Cf.max c) (if 1 > Cf.min c then 1 else Cf.min c) 100 then
                            (bs [109, 97, 120])
                          else
                            bif !S.rin (Cf.initial c) 0 100 then
                              (bs [105, 110, 105, 116, 105, 97, 108])
                            else
                              bif !S.rin (Cf.grace c) 0 600 then
                                (bs [103, 114, 97, 99, 101])
                              else
                                bif !S.rin (Cf.delay c) 0 600 then
                                  (bs [100, 101, 108, 97, 121])
                                else
                                  bif !S.rin (Cf.limit c) 1 1000 then
                                    (bs [108, 105, 109, 105, 116])
                                  else
                                    bif !S.rin (Cf.queue c) 0 200 then
                                      (bs [113, 117, 101, 117, 101])
                                    else
                                      bif !S.rin (Cf.timeout c) 1 10000 then
                                        (bs [116, 105, 109, 101, 111, 117, 116])
                                      else
                                        bif !S.rin (Cf.ready c) 0 100 then
                                          (bs [114, 101, 97, 100, 121])
                                        else
                                          bif !S.rin (Cf.subset c) 0 100 then
                                            (bs [115, 117, 98, 115, 101, 116])
                                          else
                                            bif !S.rin (Cf.sample c) 0 100 then
                                              (bs [115, 97, 109, 112, 108, 101])
                                            else
                                              (bs [])
      else
        bif !S.rin (Cf.target c) 10 1000000 then
          (bs [116, 97, 114, 103, 101, 116])
        else
          bif !S.rin (Cf.util c) 100 1000 then
            (bs [117, 116, 105, 108])
          else
            bif !S.rin (Cf.stable c) 6 600 then
              (bs [115, 116, 97, 98, 108, 101])
            else
              bif !S.rin (Cf.panic c) 1 (Cf.stable c) then
                (bs [112, 97, 110, 105, 99])
              else
                bif !S.rin (Cf.grain c) 1 (Cf.panic c) then
                  (bs [103, 114, 97, 105, 110])
                else
                  bif !S.rin (Cf.threshold c) 1100 10000 then
                    (bs [116, 104, 114, 101, 115, 104, 111, 108, 100])
                  else
                    bif !S.rin (Cf.up c) 1001 1000000 then
                      (bs [117, 112])
                    else
                      bif !S.rin (Cf.down c) 1001 1000000 then
                        (bs [100, 111, 119, 110])
                      else
                        bif !S.rin (Cf.min c) 0 100 then
                          (bs [109, 105, 110])
                        else
                          bif !S.rin (Cf.max c) (if 1 > Cf.min c then 1 else Cf.min c) 100 then
                            (bs [109, 97, 120])
                          else
                            bif !S.rin (Cf.initial c) 0 100 then
                              (bs [105, 110, 105, 116, 105, 97, 108])
                            else
                              bif !S.rin (Cf.grace c) 0 600 then
                                (bs [103, 114, 97, 99, 101])
                              else
                                bif !S.rin (Cf.delay c) 0 600 then
                                  (bs [100, 101, 108, 97, 121])
                                else
                                  bif !S.rin (Cf.burst c) 0 100000000 then
                                    (bs [98, 117, 114, 115, 116])
                                  else
                                    bif !S.rin (Cf.limit c) 1 1000 then
                                      (bs [108, 105, 109, 105, 116])
                                    else
                                      bif !S.rin (Cf.queue c) 0 200 then
                                        (bs [113, 117, 101, 117, 101])
                                      else
                                        bif !S.rin (Cf.timeout c) 1 10000 then
                                          (bs [116, 105, 109, 101, 111, 117, 116])
                                        else
                                          bif !S.rin (Cf.ready c) 0 100 then
                                            (bs [114, 101, 97, 100, 121])
                                          else
                                            bif !S.rin (Cf.subset c) 0 100 then
                                              (bs [115, 117, 98, 115, 101, 116])
                                            else
                                              bif !S.rin (Cf.sample c) 0 100 then
                                                (bs [115, 97, 109, 112, 108, 101])
                                              else
                                                (bs [])
theorem S.rwrong_v {R : Type} (c : Cf) (k : AVal → List Blk → Option R) : fnEval tis F36 40 G30 Try.f36 [.agg (cfA c)] [] k = k (.str (S.rwrong c)) [] :=
  (S.rwrong_k c k).trans (bif_lift (f := (fun v : ByteArray => k (.str v) [])) (bif_lift (f := (fun v : ByteArray => k (.str v) [])) (bif_lift (f := (fun v : ByteArray => k (.str v) [])) (bif_lift (f := (fun v : ByteArray => k (.str v) [])) rfl (bif_lift (f := (fun v : ByteArray => k (.str v) [])) rfl (bif_lift (f := (fun v : ByteArray => k (.str v) [])) rfl (bif_lift (f := (fun v : ByteArray => k (.str v) [])) rfl (bif_lift (f := (fun v : ByteArray => k (.str v) [])) rfl (bif_lift (f := (fun v : ByteArray => k (.str v) [])) rfl (bif_lift (f := (fun v : ByteArray => k (.str v) [])) rfl (bif_lift (f := (fun v : ByteArray => k (.str v) [])) rfl (bif_lift (f := (fun v : ByteArray => k (.str v) [])) rfl (bif_lift (f := (fun v : ByteArray => k (.str v) [])) rfl (bif_lift (f := (fun v : ByteArray => k (.str v) [])) rfl (bif_lift (f := (fun v : ByteArray => k (.str v) [])) rfl (bif_lift (f := (fun v : ByteArray => k (.str v) [])) rfl (bif_lift (f := (fun v : ByteArray => k (.str v) [])) rfl (bif_lift (f := (fun v : ByteArray => k (.str v) [])) rfl (bif_lift (f := (fun v : ByteArray => k (.str v) [])) rfl (bif_lift (f := (fun v : ByteArray => k (.str v) [])) rfl (bif_lift (f := (fun v : ByteArray => k (.str v) [])) rfl rfl)))))))))))))))))) (bif_lift (f := (fun v : ByteArray => k (.str v) [])) rfl (bif_lift (f := (fun v : ByteArray => k (.str v) [])) rfl (bif_lift (f := (fun v : ByteArray => k (.str v) [])) rfl (bif_lift (f := (fun v : ByteArray => k (.str v) [])) rfl (bif_lift (f := (fun v : ByteArray => k (.str v) [])) rfl (bif_lift (f := (fun v : ByteArray => k (.str v) [])) rfl (bif_lift (f := (fun v : ByteArray => k (.str v) [])) rfl (bif_lift (f := (fun v : ByteArray => k (.str v) [])) rfl (bif_lift (f := (fun v : ByteArray => k (.str v) [])) rfl (bif_lift (f := (fun v : ByteArray => k (.str v) [])) rfl (bif_lift (f := (fun v : ByteArray => k (.str v) [])) rfl (bif_lift (f := (fun v : ByteArray => k (.str v) [])) rfl (bif_lift (f := (fun v : ByteArray => k (.str v) [])) rfl (bif_lift (f := (fun v : ByteArray => k (.str v) [])) rfl (bif_lift (f := (fun v : ByteArray => k (.str v) [])) rfl (bif_lift (f := (fun v : ByteArray => k (.str v) [])) rfl (bif_lift (f := (fun v : ByteArray => k (.str v) [])) rfl (bif_lift (f := (fun v : ByteArray => k (.str v) [])) rfl (bif_lift (f := (fun v : ByteArray => k (.str v) [])) rfl rfl)))))))))))))))))))) (bif_lift (f := (fun v : ByteArray => k (.str v) [])) (bif_lift (f := (fun v : ByteArray => k (.str v) [])) rfl (bif_lift (f := (fun v : ByteArray => k (.str v) [])) rfl (bif_lift (f := (fun v : ByteArray => k (.str v) [])) rfl (bif_lift (f := (fun v : ByteArray => k (.str v) [])) rfl (bif_lift (f := (fun v : ByteArray => k (.str v) [])) rfl (bif_lift (f := (fun v : ByteArray => k (.str v) [])) rfl (bif_lift (f := (fun v : ByteArray => k (.str v) [])) rfl (bif_lift (f := (fun v : ByteArray => k (.str v) [])) rfl (bif_lift (f := (fun v : ByteArray => k (.str v) [])) rfl (bif_lift (f := (fun v : ByteArray => k (.str v) [])) rfl (bif_lift (f := (fun v : ByteArray => k (.str v) [])) rfl (bif_lift (f := (fun v : ByteArray => k (.str v) [])) rfl (bif_lift (f := (fun v : ByteArray => k (.str v) [])) rfl (bif_lift (f := (fun v : ByteArray => k (.str v) [])) rfl (bif_lift (f := (fun v : ByteArray => k (.str v) [])) rfl (bif_lift (f := (fun v : ByteArray => k (.str v) [])) rfl (bif_lift (f := (fun v : ByteArray => k (.str v) [])) rfl (bif_lift (f := (fun v : ByteArray => k (.str v) [])) rfl (bif_lift (f := (fun v : ByteArray => k (.str v) [])) rfl rfl))))))))))))))))))) (bif_lift (f := (fun v : ByteArray => k (.str v) [])) rfl (bif_lift (f := (fun v : ByteArray => k (.str v) [])) rfl (bif_lift (f := (fun v : ByteArray => k (.str v) [])) rfl (bif_lift (f := (fun v : ByteArray => k (.str v) [])) rfl (bif_lift (f := (fun v : ByteArray => k (.str v) [])) rfl (bif_lift (f := (fun v : ByteArray => k (.str v) [])) rfl (bif_lift (f := (fun v : ByteArray => k (.str v) [])) rfl (bif_lift (f := (fun v : ByteArray => k (.str v) [])) rfl (bif_lift (f := (fun v : ByteArray => k (.str v) [])) rfl (bif_lift (f := (fun v : ByteArray => k (.str v) [])) rfl (bif_lift (f := (fun v : ByteArray => k (.str v) [])) rfl (bif_lift (f := (fun v : ByteArray => k (.str v) [])) rfl (bif_lift (f := (fun v : ByteArray => k (.str v) [])) rfl (bif_lift (f := (fun v : ByteArray => k (.str v) [])) rfl (bif_lift (f := (fun v : ByteArray => k (.str v) [])) rfl (bif_lift (f := (fun v : ByteArray => k (.str v) [])) rfl (bif_lift (f := (fun v : ByteArray => k (.str v) [])) rfl (bif_lift (f := (fun v : ByteArray => k (.str v) [])) rfl (bif_lift (f := (fun v : ByteArray => k (.str v) [])) rfl (bif_lift (f := (fun v : ByteArray => k (.str v) [])) rfl rfl)))))))))))))))))))))) (bif_lift (f := (fun v : ByteArray => k (.str v) [])) (bif_lift (f := (fun v : ByteArray => k (.str v) [])) (bif_lift (f := (fun v : ByteArray => k (.str v) [])) rfl (bif_lift (f := (fun v : ByteArray => k (.str v) [])) rfl (bif_lift (f := (fun v : ByteArray => k (.str v) [])) rfl (bif_lift (f := (fun v : ByteArray => k (.str v) [])) rfl (bif_lift (f := (fun v : ByteArray => k (.str v) [])) rfl (bif_lift (f := (fun v : ByteArray => k (.str v) [])) rfl (bif_lift (f := (fun v : ByteArray => k (.str v) [])) rfl (bif_lift (f := (fun v : ByteArray => k (.str v) [])) rfl (bif_lift (f := (fun v : ByteArray => k (.str v) [])) rfl (bif_lift (f := (fun v : ByteArray => k (.str v) [])) rfl (bif_lift (f := (fun v : ByteArray => k (.str v) [])) rfl (bif_lift (f := (fun v : ByteArray => k (.str v) [])) rfl (bif_lift (f := (fun v : ByteArray => k (.str v) [])) rfl (bif_lift (f := (fun v : ByteArray => k (.str v) [])) rfl (bif_lift (f := (fun v : ByteArray => k (.str v) [])) rfl (bif_lift (f := (fun v : ByteArray => k (.str v) [])) rfl (bif_lift (f := (fun v : ByteArray => k (.str v) [])) rfl (bif_lift (f := (fun v : ByteArray => k (.str v) [])) rfl rfl)))))))))))))))))) (bif_lift (f := (fun v : ByteArray => k (.str v) [])) rfl (bif_lift (f := (fun v : ByteArray => k (.str v) [])) rfl (bif_lift (f := (fun v : ByteArray => k (.str v) [])) rfl (bif_lift (f := (fun v : ByteArray => k (.str v) [])) rfl (bif_lift (f := (fun v : ByteArray => k (.str v) [])) rfl (bif_lift (f := (fun v : ByteArray => k (.str v) [])) rfl (bif_lift (f := (fun v : ByteArray => k (.str v) [])) rfl (bif_lift (f := (fun v : ByteArray => k (.str v) [])) rfl (bif_lift (f := (fun v : ByteArray => k (.str v) [])) rfl (bif_lift (f := (fun v : ByteArray => k (.str v) [])) rfl (bif_lift (f := (fun v : ByteArray => k (.str v) [])) rfl (bif_lift (f := (fun v : ByteArray => k (.str v) [])) rfl (bif_lift (f := (fun v : ByteArray => k (.str v) [])) rfl (bif_lift (f := (fun v : ByteArray => k (.str v) [])) rfl (bif_lift (f := (fun v : ByteArray => k (.str v) [])) rfl (bif_lift (f := (fun v : ByteArray => k (.str v) [])) rfl (bif_lift (f := (fun v : ByteArray => k (.str v) [])) rfl (bif_lift (f := (fun v : ByteArray => k (.str v) [])) rfl (bif_lift (f := (fun v : ByteArray => k (.str v) [])) rfl rfl)))))))))))))))))))) (bif_lift (f := (fun v : ByteArray => k (.str v) [])) (bif_lift (f := (fun v : ByteArray => k (.str v) [])) rfl (bif_lift (f := (fun v : ByteArray => k (.str v) [])) rfl (bif_lift (f := (fun v : ByteArray => k (.str v) [])) rfl (bif_lift (f := (fun v : ByteArray => k (.str v) [])) rfl (bif_lift (f := (fun v : ByteArray => k (.str v) [])) rfl (bif_lift (f := (fun v : ByteArray => k (.str v) [])) rfl (bif_lift (f := (fun v : ByteArray => k (.str v) [])) rfl (bif_lift (f := (fun v : ByteArray => k (.str v) [])) rfl (bif_lift (f := (fun v : ByteArray => k (.str v) [])) rfl (bif_lift (f := (fun v : ByteArray => k (.str v) [])) rfl (bif_lift (f := (fun v : ByteArray => k (.str v) [])) rfl (bif_lift (f := (fun v : ByteArray => k (.str v) [])) rfl (bif_lift (f := (fun v : ByteArray => k (.str v) [])) rfl (bif_lift (f := (fun v : ByteArray => k (.str v) [])) rfl (bif_lift (f := (fun v : ByteArray => k (.str v) [])) rfl (bif_lift (f := (fun v : ByteArray => k (.str v) [])) rfl (bif_lift (f := (fun v : ByteArray => k (.str v) [])) rfl (bif_lift (f := (fun v : ByteArray => k (.str v) [])) rfl (bif_lift (f := (fun v : ByteArray => k (.str v) [])) rfl rfl))))))))))))))))))) (bif_lift (f := (fun v : ByteArray => k (.str v) [])) rfl (bif_lift (f := (fun v : ByteArray => k (.str v) [])) rfl (bif_lift (f := (fun v : ByteArray => k (.str v) [])) rfl (bif_lift (f := (fun v : ByteArray => k (.str v) [])) rfl (bif_lift (f := (fun v : ByteArray => k (.str v) [])) rfl (bif_lift (f := (fun v : ByteArray => k (.str v) [])) rfl (bif_lift (f := (fun v : ByteArray => k (.str v) [])) rfl (bif_lift (f := (fun v : ByteArray => k (.str v) [])) rfl (bif_lift (f := (fun v : ByteArray => k (.str v) [])) rfl (bif_lift (f := (fun v : ByteArray => k (.str v) [])) rfl (bif_lift (f := (fun v : ByteArray => k (.str v) [])) rfl (bif_lift (f := (fun v : ByteArray => k (.str v) [])) rfl (bif_lift (f := (fun v : ByteArray => k (.str v) [])) rfl (bif_lift (f := (fun v : ByteArray => k (.str v) [])) rfl (bif_lift (f := (fun v : ByteArray => k (.str v) [])) rfl (bif_lift (f := (fun v : ByteArray => k (.str v) [])) rfl (bif_lift (f := (fun v : ByteArray => k (.str v) [])) rfl (bif_lift (f := (fun v : ByteArray => k (.str v) [])) rfl (bif_lift (f := (fun v : ByteArray => k (.str v) [])) rfl (bif_lift (f := (fun v : ByteArray => k (.str v) [])) rfl rfl)))))))))))))))))))))))
noncomputable def H36 : Hnd := fun R args σ k => match args, σ with
  | [.agg [.int .i64 target_, .int .i64 util_, .int .i64 stable_, .int .i64 panic_, .int .i64 grain_, .int .i64 threshold_, .int .i64 up_, .int .i64 down_, .int .i64 min_, .int .i64 max_, .int .i64 initial_, .int .i64 grace_, .int .i64 delay_, .int .i64 burst_, .int .i64 limit_, .int .i64 queue_, .int .i64 timeout_, .int .i64 ready_, .int .i64 subset_, .int .i64 sample_]], [] => k (.str (S.rwrong ⟨target_, util_, stable_, panic_, grain_, threshold_, up_, down_, min_, max_, initial_, grace_, delay_, burst_, limit_, queue_, timeout_, ready_, subset_, sample_⟩)) []
  | _, _ => none
theorem H36_ok : HndOk Try.prog 36 H36 := hnd_ok tis tisOk mixOk G30_ok F36 Try.func36 rfl (by
  intro R args σ k r h
  unfold H36 at h
  split at h
  · rename_i target_ util_ stable_ panic_ grain_ threshold_ up_ down_ min_ max_ initial_ grace_ delay_ burst_ limit_ queue_ timeout_ ready_ subset_ sample_; exact ⟨40, (S.rwrong_v ⟨target_, util_, stable_, panic_, grain_, threshold_, up_, down_, min_, max_, initial_, grace_, delay_, burst_, limit_, queue_, timeout_, ready_, subset_, sample_⟩ _).trans h⟩
  · cases h)
noncomputable def G36 : Env := Env.add 36 H36 G30
theorem G36_ok : EnvOk Try.prog G36 := envAdd_ok H36_ok G30_ok

/-! spinnakerref1.May -/
def F37 : FCfg := ⟨keepAt [(0, [1]), (1, [2])], loopAt [], []⟩
theorem S.rmay_k {R : Type} (c : Cf) (k : AVal → List Blk → Option R) : fnEval tis F37 0 G36 Try.f37 [.agg (cfA c)] [] k =
  (k (.bool (Array.toList (ByteArray.data (S.rwrong (Cf.mk (Cf.target c) (Cf.util c) (Cf.stable c) (Cf.panic c) (Cf.grain c) (Cf.threshold c) (Cf.up c) (Cf.down c) (Cf.min c) (Cf.max c) (Cf.initial c) (Cf.grace c) (Cf.delay c) (Cf.burst c) (Cf.limit c) (Cf.queue c) (Cf.timeout c) (Cf.ready c) (Cf.subset c) (Cf.sample c)))) == Array.toList (ByteArray.data (bs [])))) ([])) := by kernel_rfl
noncomputable def S.rmay (c : Cf) : Bool :=
  (Array.toList (ByteArray.data (S.rwrong (Cf.mk (Cf.target c) (Cf.util c) (Cf.stable c) (Cf.panic c) (Cf.grain c) (Cf.threshold c) (Cf.up c) (Cf.down c) (Cf.min c) (Cf.max c) (Cf.initial c) (Cf.grace c) (Cf.delay c) (Cf.burst c) (Cf.limit c) (Cf.queue c) (Cf.timeout c) (Cf.ready c) (Cf.subset c) (Cf.sample c)))) == Array.toList (ByteArray.data (bs [])))
theorem S.rmay_v {R : Type} (c : Cf) (k : AVal → List Blk → Option R) : fnEval tis F37 0 G36 Try.f37 [.agg (cfA c)] [] k = k (.bool (S.rmay c)) [] :=
  (S.rmay_k c k).trans rfl
noncomputable def H37 : Hnd := fun R args σ k => match args, σ with
  | [.agg [.int .i64 target_, .int .i64 util_, .int .i64 stable_, .int .i64 panic_, .int .i64 grain_, .int .i64 threshold_, .int .i64 up_, .int .i64 down_, .int .i64 min_, .int .i64 max_, .int .i64 initial_, .int .i64 grace_, .int .i64 delay_, .int .i64 burst_, .int .i64 limit_, .int .i64 queue_, .int .i64 timeout_, .int .i64 ready_, .int .i64 subset_, .int .i64 sample_]], [] => k (.bool (S.rmay ⟨target_, util_, stable_, panic_, grain_, threshold_, up_, down_, min_, max_, initial_, grace_, delay_, burst_, limit_, queue_, timeout_, ready_, subset_, sample_⟩)) []
  | _, _ => none
theorem H37_ok : HndOk Try.prog 37 H37 := hnd_ok tis tisOk mixOk G36_ok F37 Try.func37 rfl (by
  intro R args σ k r h
  unfold H37 at h
  split at h
  · rename_i target_ util_ stable_ panic_ grain_ threshold_ up_ down_ min_ max_ initial_ grace_ delay_ burst_ limit_ queue_ timeout_ ready_ subset_ sample_; exact ⟨0, (S.rmay_v ⟨target_, util_, stable_, panic_, grain_, threshold_, up_, down_, min_, max_, initial_, grace_, delay_, burst_, limit_, queue_, timeout_, ready_, subset_, sample_⟩ _).trans h⟩
  · cases h)
noncomputable def G37 : Env := Env.add 37 H37 G36
theorem G37_ok : EnvOk Try.prog G37 := envAdd_ok H37_ok G36_ok
end Go.Proofs.Ytjbdlnomjkhhbaa.AB
