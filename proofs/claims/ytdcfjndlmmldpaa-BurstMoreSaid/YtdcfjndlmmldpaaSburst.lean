/- The functions of layer 16, as plain functions. -/
import Derived.Test.YtdcfjndlmmldpaaSmilli
namespace Go.Proofs.Ytdcfjndlmmldpaa.AB
set_option linter.unusedVariables false

/-! burst.there -/
def F40 : FCfg := ⟨keepAt [(0, [0, 5, 6, 7, 8, 9, 10, 12, 13, 14]), (1, [3, 4, 10, 12, 13, 14]), (2, [3, 11, 12, 13, 14]), (3, [2]), (4, [2])], loopAt [], []⟩
theorem S.bthere_k {R : Type} (n : Int) (k : AVal → List Blk → Option R) : fnEval tis F40 0 G42 Try.f40 [.iface 3 (.int .i64 n)] [] k =
  (k (.int .i64 (if 1000000 < if 0 > n then 0 else n then 1000000 else if 0 > n then 0 else n)) ([])) := by kernel_rfl
def S.bthere (n : Int) : Int :=
  (if 1000000 < if 0 > n then 0 else n then 1000000 else if 0 > n then 0 else n)
theorem S.bthere_v {R : Type} (n : Int) (k : AVal → List Blk → Option R) : fnEval tis F40 0 G42 Try.f40 [.iface 3 (.int .i64 n)] [] k = k (.int .i64 (S.bthere n)) [] :=
  (S.bthere_k n k).trans rfl
def H40 : Hnd := fun R args σ k => match args, σ with
  | [.iface 3 (.int .i64 n)], [] => k (.int .i64 (S.bthere n)) []
  | _, _ => none
theorem H40_ok : HndOk Try.prog 40 H40 := hnd_ok tis tisOk mixOk G42_ok F40 Try.func40 rfl (by
  intro R args σ k r h
  unfold H40 at h
  split at h
  · rename_i n; exact ⟨0, (S.bthere_v n _).trans h⟩
  · cases h)
def G40 : Env := Env.add 40 H40 G42
theorem G40_ok : EnvOk Try.prog G40 := envAdd_ok H40_ok G42_ok

/-! burst.Excess -/
def F25 : FCfg := ⟨keepAt [(0, [1, 2, 3, 10, 11, 12, 14, 15, 16, 17, 18, 19, 20, 21, 22, 23, 24, 25, 26, 27, 28, 29, 30, 31, 32, 33, 34, 36]), (1, [1, 2, 3, 9, 14, 15, 16, 17, 18, 19, 20, 21, 22, 23, 24, 25, 26, 27, 28, 29, 30, 31, 32, 33, 34, 36]), (2, [6]), (3, [1, 2, 3, 13, 17, 18, 19, 20, 21, 22, 23, 24, 25, 26, 27, 28, 29, 30, 31, 32, 33, 34, 36]), (4, [6]), (5, [3, 7, 29, 30, 31, 32, 33, 34, 36]), (6, [7, 36]), (7, [6])], loopAt [], []⟩
theorem S.excess_k {R : Type} (c : Cf) (r q : Int) (k : AVal → List Blk → Option R) : fnEval tis F25 0 G40 Try.f25 [.agg (cfA c), .int .i64 r, .int .i64 q] [] k =
  (bif !S.may (Cf.mk (Cf.target c) (Cf.util c) (Cf.stable c) (Cf.panic c) (Cf.grain c) (Cf.threshold c) (Cf.up c) (Cf.down c) (Cf.min c) (Cf.max c) (Cf.initial c) (Cf.grace c) (Cf.delay c) (Cf.burst c) (Cf.limit c) (Cf.queue c) (Cf.timeout c) (Cf.ready c) (Cf.subset c) (Cf.sample c)) then
    k (.int .i64 0) ([])
  else
    bif decide (Cf.burst c = -1000) then
      k (.int .i64 (-1000)) ([])
    else
      k (.int .i64 (Prod.fst (S.msub (Prod.fst (S.msub (Go.IntKind.wrap .i64 (Go.IntKind.wrap .i64 (S.bthere r * Cf.limit c) * 1000)) q)) (Cf.burst c)))) ([])) := by kernel_rfl
def S.excess (c : Cf) (r q : Int) : Int :=
  bif !S.may (Cf.mk (Cf.target c) (Cf.util c) (Cf.stable c) (Cf.panic c) (Cf.grain c) (Cf.threshold c) (Cf.up c) (Cf.down c) (Cf.min c) (Cf.max c) (Cf.initial c) (Cf.grace c) (Cf.delay c) (Cf.burst c) (Cf.limit c) (Cf.queue c) (Cf.timeout c) (Cf.ready c) (Cf.subset c) (Cf.sample c)) then
    (0)
  else
    bif decide (Cf.burst c = -1000) then
      (-1000)
    else
      (Prod.fst (S.msub (Prod.fst (S.msub (Go.IntKind.wrap .i64 (Go.IntKind.wrap .i64 (S.bthere r * Cf.limit c) * 1000)) q)) (Cf.burst c)))
theorem S.excess_v {R : Type} (c : Cf) (r q : Int) (k : AVal → List Blk → Option R) : fnEval tis F25 0 G40 Try.f25 [.agg (cfA c), .int .i64 r, .int .i64 q] [] k = k (.int .i64 (S.excess c r q)) [] :=
  (S.excess_k c r q k).trans (bif_lift (f := (fun v : Int => k (.int .i64 v) [])) rfl (bif_lift (f := (fun v : Int => k (.int .i64 v) [])) rfl rfl))
def H25 : Hnd := fun R args σ k => match args, σ with
  | [.agg [.int .i64 target_, .int .i64 util_, .int .i64 stable_, .int .i64 panic_, .int .i64 grain_, .int .i64 threshold_, .int .i64 up_, .int .i64 down_, .int .i64 min_, .int .i64 max_, .int .i64 initial_, .int .i64 grace_, .int .i64 delay_, .int .i64 burst_, .int .i64 limit_, .int .i64 queue_, .int .i64 timeout_, .int .i64 ready_, .int .i64 subset_, .int .i64 sample_], .int .i64 r, .int .i64 q], [] => k (.int .i64 (S.excess ⟨target_, util_, stable_, panic_, grain_, threshold_, up_, down_, min_, max_, initial_, grace_, delay_, burst_, limit_, queue_, timeout_, ready_, subset_, sample_⟩ r q)) []
  | _, _ => none
theorem H25_ok : HndOk Try.prog 25 H25 := hnd_ok tis tisOk mixOk G40_ok F25 Try.func25 rfl (by
  intro R args σ k r h
  unfold H25 at h
  split at h
  · rename_i target_ util_ stable_ panic_ grain_ threshold_ up_ down_ min_ max_ initial_ grace_ delay_ burst_ limit_ queue_ timeout_ ready_ subset_ sample_ r q; exact ⟨0, (S.excess_v ⟨target_, util_, stable_, panic_, grain_, threshold_, up_, down_, min_, max_, initial_, grace_, delay_, burst_, limit_, queue_, timeout_, ready_, subset_, sample_⟩ r q _).trans h⟩
  · cases h)
def G25 : Env := Env.add 25 H25 G40
theorem G25_ok : EnvOk Try.prog G25 := envAdd_ok H25_ok G40_ok

/-! burst.Proxy -/
def F27 : FCfg := ⟨keepAt [(0, [1, 2, 3, 7, 8, 9, 10, 11, 12, 13, 14, 15, 16, 17, 18, 19, 20, 21, 22, 23, 24, 25, 26, 27]), (1, [6])], loopAt [], []⟩
theorem S.proxy_k {R : Type} (c : Cf) (r e : Int) (k : AVal → List Blk → Option R) : fnEval tis F27 0 G25 Try.f27 [.agg (cfA c), .int .i64 r, .int .i64 e] [] k =
  (bif !S.may (Cf.mk (Cf.target c) (Cf.util c) (Cf.stable c) (Cf.panic c) (Cf.grain c) (Cf.threshold c) (Cf.up c) (Cf.down c) (Cf.min c) (Cf.max c) (Cf.initial c) (Cf.grace c) (Cf.delay c) (Cf.burst c) (Cf.limit c) (Cf.queue c) (Cf.timeout c) (Cf.ready c) (Cf.subset c) (Cf.sample c)) then
    k (.bool true) ([])
  else
    bif decide (Cf.burst c = -1000) then
      k (.bool true) ([])
    else
      bif decide (r < 1) then
        k (.bool true) ([])
      else
        bif decide (0 < Cf.burst c) then
          k (.bool (decide (e < 0))) ([])
        else
          k (.bool false) ([])) := by kernel_rfl
def S.proxy (c : Cf) (r e : Int) : Bool :=
  bif !S.may (Cf.mk (Cf.target c) (Cf.util c) (Cf.stable c) (Cf.panic c) (Cf.grain c) (Cf.threshold c) (Cf.up c) (Cf.down c) (Cf.min c) (Cf.max c) (Cf.initial c) (Cf.grace c) (Cf.delay c) (Cf.burst c) (Cf.limit c) (Cf.queue c) (Cf.timeout c) (Cf.ready c) (Cf.subset c) (Cf.sample c)) then
    (true)
  else
    bif decide (Cf.burst c = -1000) then
      (true)
    else
      bif decide (r < 1) then
        (true)
      else
        bif decide (0 < Cf.burst c) then
          (decide (e < 0))
        else
          (false)
theorem S.proxy_v {R : Type} (c : Cf) (r e : Int) (k : AVal → List Blk → Option R) : fnEval tis F27 0 G25 Try.f27 [.agg (cfA c), .int .i64 r, .int .i64 e] [] k = k (.bool (S.proxy c r e)) [] :=
  (S.proxy_k c r e k).trans (bif_lift (f := (fun v : Bool => k (.bool v) [])) rfl (bif_lift (f := (fun v : Bool => k (.bool v) [])) rfl (bif_lift (f := (fun v : Bool => k (.bool v) [])) rfl (bif_lift (f := (fun v : Bool => k (.bool v) [])) rfl rfl))))
def H27 : Hnd := fun R args σ k => match args, σ with
  | [.agg [.int .i64 target_, .int .i64 util_, .int .i64 stable_, .int .i64 panic_, .int .i64 grain_, .int .i64 threshold_, .int .i64 up_, .int .i64 down_, .int .i64 min_, .int .i64 max_, .int .i64 initial_, .int .i64 grace_, .int .i64 delay_, .int .i64 burst_, .int .i64 limit_, .int .i64 queue_, .int .i64 timeout_, .int .i64 ready_, .int .i64 subset_, .int .i64 sample_], .int .i64 r, .int .i64 e], [] => k (.bool (S.proxy ⟨target_, util_, stable_, panic_, grain_, threshold_, up_, down_, min_, max_, initial_, grace_, delay_, burst_, limit_, queue_, timeout_, ready_, subset_, sample_⟩ r e)) []
  | _, _ => none
theorem H27_ok : HndOk Try.prog 27 H27 := hnd_ok tis tisOk mixOk G25_ok F27 Try.func27 rfl (by
  intro R args σ k r h
  unfold H27 at h
  split at h
  · rename_i target_ util_ stable_ panic_ grain_ threshold_ up_ down_ min_ max_ initial_ grace_ delay_ burst_ limit_ queue_ timeout_ ready_ subset_ sample_ r e; exact ⟨0, (S.proxy_v ⟨target_, util_, stable_, panic_, grain_, threshold_, up_, down_, min_, max_, initial_, grace_, delay_, burst_, limit_, queue_, timeout_, ready_, subset_, sample_⟩ r e _).trans h⟩
  · cases h)
def G27 : Env := Env.add 27 H27 G25
theorem G27_ok : EnvOk Try.prog G27 := envAdd_ok H27_ok G25_ok

/-! spinnakerref12.Excess -/
def F26 : FCfg := ⟨keepAt [(0, [1, 2, 3, 12, 13, 14, 16, 17, 18, 19, 20, 21, 22, 23, 24, 25, 26, 27, 28, 29, 30, 31, 32, 33, 34, 35, 36, 37]), (1, [1, 2, 3, 11, 16, 17, 18, 19, 20, 21, 22, 23, 24, 25, 26, 27, 28, 29, 30, 31, 32, 33, 34, 35, 36, 37]), (2, [6]), (3, [1, 2, 3, 15, 19, 20, 21, 22, 23, 24, 25, 26, 27, 28, 29, 30, 31, 32, 33, 34, 35, 36, 37]), (4, [6]), (5, [3, 7, 30, 31, 32, 33, 34, 35, 36, 37]), (6, [9, 37]), (7, [6])], loopAt [], []⟩
theorem S.rexcess_k {R : Type} (c : Cf) (r q : Int) (k : AVal → List Blk → Option R) : fnEval tis F26 0 G27 Try.f26 [.agg (cfA c), .int .i64 r, .int .i64 q] [] k =
  (bif !S.rmay (Cf.mk (Cf.target c) (Cf.util c) (Cf.stable c) (Cf.panic c) (Cf.grain c) (Cf.threshold c) (Cf.up c) (Cf.down c) (Cf.min c) (Cf.max c) (Cf.initial c) (Cf.grace c) (Cf.delay c) (Cf.burst c) (Cf.limit c) (Cf.queue c) (Cf.timeout c) (Cf.ready c) (Cf.subset c) (Cf.sample c)) then
    k (.int .i64 0) ([])
  else
    bif decide (Cf.burst c = -1000) then
      k (.int .i64 (-1000)) ([])
    else
      k (.int .i64 (Prod.fst (S.rsub (Prod.fst (S.rsub (Go.IntKind.wrap .i64 (Go.IntKind.wrap .i64 (S.rcut r 0 * Cf.limit c) * 1000)) q)) (Cf.burst c)))) ([])) := by kernel_rfl
def S.rexcess (c : Cf) (r q : Int) : Int :=
  bif !S.rmay (Cf.mk (Cf.target c) (Cf.util c) (Cf.stable c) (Cf.panic c) (Cf.grain c) (Cf.threshold c) (Cf.up c) (Cf.down c) (Cf.min c) (Cf.max c) (Cf.initial c) (Cf.grace c) (Cf.delay c) (Cf.burst c) (Cf.limit c) (Cf.queue c) (Cf.timeout c) (Cf.ready c) (Cf.subset c) (Cf.sample c)) then
    (0)
  else
    bif decide (Cf.burst c = -1000) then
      (-1000)
    else
      (Prod.fst (S.rsub (Prod.fst (S.rsub (Go.IntKind.wrap .i64 (Go.IntKind.wrap .i64 (S.rcut r 0 * Cf.limit c) * 1000)) q)) (Cf.burst c)))
theorem S.rexcess_v {R : Type} (c : Cf) (r q : Int) (k : AVal → List Blk → Option R) : fnEval tis F26 0 G27 Try.f26 [.agg (cfA c), .int .i64 r, .int .i64 q] [] k = k (.int .i64 (S.rexcess c r q)) [] :=
  (S.rexcess_k c r q k).trans (bif_lift (f := (fun v : Int => k (.int .i64 v) [])) rfl (bif_lift (f := (fun v : Int => k (.int .i64 v) [])) rfl rfl))
def H26 : Hnd := fun R args σ k => match args, σ with
  | [.agg [.int .i64 target_, .int .i64 util_, .int .i64 stable_, .int .i64 panic_, .int .i64 grain_, .int .i64 threshold_, .int .i64 up_, .int .i64 down_, .int .i64 min_, .int .i64 max_, .int .i64 initial_, .int .i64 grace_, .int .i64 delay_, .int .i64 burst_, .int .i64 limit_, .int .i64 queue_, .int .i64 timeout_, .int .i64 ready_, .int .i64 subset_, .int .i64 sample_], .int .i64 r, .int .i64 q], [] => k (.int .i64 (S.rexcess ⟨target_, util_, stable_, panic_, grain_, threshold_, up_, down_, min_, max_, initial_, grace_, delay_, burst_, limit_, queue_, timeout_, ready_, subset_, sample_⟩ r q)) []
  | _, _ => none
theorem H26_ok : HndOk Try.prog 26 H26 := hnd_ok tis tisOk mixOk G27_ok F26 Try.func26 rfl (by
  intro R args σ k r h
  unfold H26 at h
  split at h
  · rename_i target_ util_ stable_ panic_ grain_ threshold_ up_ down_ min_ max_ initial_ grace_ delay_ burst_ limit_ queue_ timeout_ ready_ subset_ sample_ r q; exact ⟨0, (S.rexcess_v ⟨target_, util_, stable_, panic_, grain_, threshold_, up_, down_, min_, max_, initial_, grace_, delay_, burst_, limit_, queue_, timeout_, ready_, subset_, sample_⟩ r q _).trans h⟩
  · cases h)
def G26 : Env := Env.add 26 H26 G27
theorem G26_ok : EnvOk Try.prog G26 := envAdd_ok H26_ok G27_ok

/-! spinnakerref12.Proxy -/
def F28 : FCfg := ⟨keepAt [(0, [1, 2, 3, 7, 8, 9, 10, 11, 12, 13, 14, 15, 16, 17, 18, 19, 20, 21, 22, 23, 24, 25, 26, 27]), (1, [6])], loopAt [], []⟩
theorem S.rproxy_k {R : Type} (c : Cf) (r e : Int) (k : AVal → List Blk → Option R) : fnEval tis F28 0 G26 Try.f28 [.agg (cfA c), .int .i64 r, .int .i64 e] [] k =
  (bif !S.rmay (Cf.mk (Cf.target c) (Cf.util c) (Cf.stable c) (Cf.panic c) (Cf.grain c) (Cf.threshold c) (Cf.up c) (Cf.down c) (Cf.min c) (Cf.max c) (Cf.initial c) (Cf.grace c) (Cf.delay c) (Cf.burst c) (Cf.limit c) (Cf.queue c) (Cf.timeout c) (Cf.ready c) (Cf.subset c) (Cf.sample c)) then
    k (.bool true) ([])
  else
    bif decide (Cf.burst c = -1000) then
      k (.bool true) ([])
    else
      bif decide (r < 1) then
        k (.bool true) ([])
      else
        bif decide (0 < Cf.burst c) then
          k (.bool (decide (e < 0))) ([])
        else
          k (.bool false) ([])) := by kernel_rfl
def S.rproxy (c : Cf) (r e : Int) : Bool :=
  bif !S.rmay (Cf.mk (Cf.target c) (Cf.util c) (Cf.stable c) (Cf.panic c) (Cf.grain c) (Cf.threshold c) (Cf.up c) (Cf.down c) (Cf.min c) (Cf.max c) (Cf.initial c) (Cf.grace c) (Cf.delay c) (Cf.burst c) (Cf.limit c) (Cf.queue c) (Cf.timeout c) (Cf.ready c) (Cf.subset c) (Cf.sample c)) then
    (true)
  else
    bif decide (Cf.burst c = -1000) then
      (true)
    else
      bif decide (r < 1) then
        (true)
      else
        bif decide (0 < Cf.burst c) then
          (decide (e < 0))
        else
          (false)
theorem S.rproxy_v {R : Type} (c : Cf) (r e : Int) (k : AVal → List Blk → Option R) : fnEval tis F28 0 G26 Try.f28 [.agg (cfA c), .int .i64 r, .int .i64 e] [] k = k (.bool (S.rproxy c r e)) [] :=
  (S.rproxy_k c r e k).trans (bif_lift (f := (fun v : Bool => k (.bool v) [])) rfl (bif_lift (f := (fun v : Bool => k (.bool v) [])) rfl (bif_lift (f := (fun v : Bool => k (.bool v) [])) rfl (bif_lift (f := (fun v : Bool => k (.bool v) [])) rfl rfl))))
def H28 : Hnd := fun R args σ k => match args, σ with
  | [.agg [.int .i64 target_, .int .i64 util_, .int .i64 stable_, .int .i64 panic_, .int .i64 grain_, .int .i64 threshold_, .int .i64 up_, .int .i64 down_, .int .i64 min_, .int .i64 max_, .int .i64 initial_, .int .i64 grace_, .int .i64 delay_, .int .i64 burst_, .int .i64 limit_, .int .i64 queue_, .int .i64 timeout_, .int .i64 ready_, .int .i64 subset_, .int .i64 sample_], .int .i64 r, .int .i64 e], [] => k (.bool (S.rproxy ⟨target_, util_, stable_, panic_, grain_, threshold_, up_, down_, min_, max_, initial_, grace_, delay_, burst_, limit_, queue_, timeout_, ready_, subset_, sample_⟩ r e)) []
  | _, _ => none
theorem H28_ok : HndOk Try.prog 28 H28 := hnd_ok tis tisOk mixOk G26_ok F28 Try.func28 rfl (by
  intro R args σ k r h
  unfold H28 at h
  split at h
  · rename_i target_ util_ stable_ panic_ grain_ threshold_ up_ down_ min_ max_ initial_ grace_ delay_ burst_ limit_ queue_ timeout_ ready_ subset_ sample_ r e; exact ⟨0, (S.rproxy_v ⟨target_, util_, stable_, panic_, grain_, threshold_, up_, down_, min_, max_, initial_, grace_, delay_, burst_, limit_, queue_, timeout_, ready_, subset_, sample_⟩ r e _).trans h⟩
  · cases h)
def G28 : Env := Env.add 28 H28 G26
theorem G28_ok : EnvOk Try.prog G28 := envAdd_ok H28_ok G26_ok

/-! spinnakerlaw16.told -/
def F24 : FCfg := ⟨keepAt [(0, [1, 2, 3, 4, 5, 6, 7, 8, 9, 10, 11, 12, 13, 14, 15, 16, 17, 18, 19, 20, 21, 22, 23, 24, 25, 26, 27, 28, 29, 30, 31, 32, 33, 34, 35, 36, 37, 38, 39, 40, 41, 42, 43, 44, 45, 46, 47, 48, 49, 50, 51]), (1, [1, 2, 3, 5, 6, 7, 8, 9, 10, 11, 12, 13, 14, 15, 16, 17, 18, 19, 20, 21, 22, 23, 24, 25, 26, 27, 28, 29, 30, 31, 32, 33, 34, 35, 36, 37, 38, 39, 40, 41, 42, 43, 44, 45, 46, 47, 48, 49, 50, 51]), (2, [1, 2, 3, 7, 8, 9, 10, 11, 12, 13, 14, 15, 16, 17, 18, 19, 20, 21, 22, 23, 24, 25, 26, 27, 28, 29, 30, 31, 32, 33, 34, 35, 36, 37, 38, 39, 40, 41, 42, 43, 44, 45, 46, 47, 48, 49, 50, 51]), (3, [1, 2, 3, 9, 10, 11, 12, 13, 14, 15, 16, 17, 18, 19, 20, 21, 22, 23, 24, 25, 26, 27, 28, 29, 30, 31, 32, 33, 34, 35, 36, 37, 38, 39, 40, 41, 42, 43, 44, 45, 46, 47, 48, 49, 50, 51]), (4, [0])], loopAt [], []⟩
theorem S.told16_k {R : Type}  (k : AVal → List Blk → Option R) : fnEval tis F24 0 G28 Try.f24 [] [] k =
  (k (.bool true) ([])) := by kernel_rfl
def S.told16  : Bool :=
  (true)
theorem S.told16_v {R : Type}  (k : AVal → List Blk → Option R) : fnEval tis F24 0 G28 Try.f24 [] [] k = k (.bool (S.told16)) [] :=
  (S.told16_k k).trans rfl
def H24 : Hnd := fun R args σ k => match args, σ with
  | [], [] => k (.bool (S.told16)) []
  | _, _ => none
theorem H24_ok : HndOk Try.prog 24 H24 := hnd_ok tis tisOk mixOk G28_ok F24 Try.func24 rfl (by
  intro R args σ k r h
  unfold H24 at h
  split at h
  · exact ⟨0, (S.told16_v _).trans h⟩
  · cases h)
def G24 : Env := Env.add 24 H24 G28
theorem G24_ok : EnvOk Try.prog G24 := envAdd_ok H24_ok G28_ok

/-! spinnakerlaw16.BurstRoom -/
def F6 : FCfg := ⟨keepAt [(0, [1, 2, 3, 9, 10, 11, 12, 13, 14, 15, 17, 18, 19, 20, 21, 22, 23, 24, 25, 26, 27, 28, 29, 30, 31, 32, 33, 34, 35, 36, 37, 38, 39, 40, 41, 42, 43, 44, 45, 46, 47, 48, 49, 50, 51, 52, 53, 54, 55, 56, 57, 58, 59, 60]), (1, [1, 2, 3, 16, 17, 18, 19, 20, 21, 22, 23, 24, 25, 26, 27, 28, 29, 30, 31, 32, 33, 34, 35, 36, 37, 38, 39, 40, 41, 42, 43, 44, 45, 46, 47, 48, 49, 50, 51, 52, 53, 54, 55, 56, 57, 58, 59, 60]), (2, [6]), (3, [3, 7, 8, 24, 25, 26, 27, 28, 29, 30, 31, 32, 33, 34, 35, 36, 37, 38, 39, 40, 41, 42, 43, 44, 45, 46, 47, 48, 49, 50, 51, 52, 53, 54, 55, 56, 57, 58, 59, 60]), (4, [6])], loopAt [], []⟩
theorem S.BurstRoom_k {R : Type} (c : Cf) (r q : Int) (k : AVal → List Blk → Option R) : fnEval tis F6 0 G24 Try.f6 [.agg (cfA c), .int .i64 r, .int .i64 q] [] k =
  (bif !S.rmay (Cf.mk (Cf.target c) (Cf.util c) (Cf.stable c) (Cf.panic c) (Cf.grain c) (Cf.threshold c) (Cf.up c) (Cf.down c) (Cf.min c) (Cf.max c) (Cf.initial c) (Cf.grace c) (Cf.delay c) (Cf.burst c) (Cf.limit c) (Cf.queue c) (Cf.timeout c) (Cf.ready c) (Cf.subset c) (Cf.sample c)) then
    k (.bool true) ([])
  else
    bif decide (Cf.burst c = -1000) then
      k (.bool true) ([])
    else
      bif decide (S.excess (Cf.mk (Cf.target c) (Cf.util c) (Cf.stable c) (Cf.panic c) (Cf.grain c) (Cf.threshold c) (Cf.up c) (Cf.down c) (Cf.min c) (Cf.max c) (Cf.initial c) (Cf.grace c) (Cf.delay c) (Cf.burst c) (Cf.limit c) (Cf.queue c) (Cf.timeout c) (Cf.ready c) (Cf.subset c) (Cf.sample c)) (Go.IntKind.wrap .i64 (Int.tmod (Go.IntKind.wrap .u64 r) 1001)) (Int.tmod q 1000000000) = Go.IntKind.wrap .i64 (Go.IntKind.wrap .i64 (Go.IntKind.wrap .i64 (Go.IntKind.wrap .i64 (Go.IntKind.wrap .i64 (Int.tmod (Go.IntKind.wrap .u64 r) 1001) * Cf.limit c) * 1000) - Int.tmod q 1000000000) - Cf.burst c)) then
        bif decide (S.excess (Cf.mk (Cf.target c) (Cf.util c) (Cf.stable c) (Cf.panic c) (Cf.grain c) (Cf.threshold c) (Cf.up c) (Cf.down c) (Cf.min c) (Cf.max c) (Cf.initial c) (Cf.grace c) (Cf.delay c) (Cf.burst c) (Cf.limit c) (Cf.queue c) (Cf.timeout c) (Cf.ready c) (Cf.subset c) (Cf.sample c)) (-5) (Int.tmod q 1000000000) = Go.IntKind.wrap .i64 (Go.IntKind.wrap .i64 (0 - Int.tmod q 1000000000) - Cf.burst c)) then
          k (.bool (decide (S.excess (Cf.mk (Cf.target c) (Cf.util c) (Cf.stable c) (Cf.panic c) (Cf.grain c) (Cf.threshold c) (Cf.up c) (Cf.down c) (Cf.min c) (Cf.max c) (Cf.initial c) (Cf.grace c) (Cf.delay c) (Cf.burst c) (Cf.limit c) (Cf.queue c) (Cf.timeout c) (Cf.ready c) (Cf.subset c) (Cf.sample c)) 0 (-9223372036854775808) = Go.IntKind.wrap .i64 (9223372036854775807 - Cf.burst c)))) ([])
        else
          k (.bool false) ([])
      else
        k (.bool false) ([])) := by kernel_rfl
def S.BurstRoom (c : Cf) (r q : Int) : Bool :=
  bif !S.rmay (Cf.mk (Cf.target c) (Cf.util c) (Cf.stable c) (Cf.panic c) (Cf.grain c) (Cf.threshold c) (Cf.up c) (Cf.down c) (Cf.min c) (Cf.max c) (Cf.initial c) (Cf.grace c) (Cf.delay c) (Cf.burst c) (Cf.limit c) (Cf.queue c) (Cf.timeout c) (Cf.ready c) (Cf.subset c) (Cf.sample c)) then
    (true)
  else
    bif decide (Cf.burst c = -1000) then
      (true)
    else
      bif decide (S.excess (Cf.mk (Cf.target c) (Cf.util c) (Cf.stable c) (Cf.panic c) (Cf.grain c) (Cf.threshold c) (Cf.up c) (Cf.down c) (Cf.min c) (Cf.max c) (Cf.initial c) (Cf.grace c) (Cf.delay c) (Cf.burst c) (Cf.limit c) (Cf.queue c) (Cf.timeout c) (Cf.ready c) (Cf.subset c) (Cf.sample c)) (Go.IntKind.wrap .i64 (Int.tmod (Go.IntKind.wrap .u64 r) 1001)) (Int.tmod q 1000000000) = Go.IntKind.wrap .i64 (Go.IntKind.wrap .i64 (Go.IntKind.wrap .i64 (Go.IntKind.wrap .i64 (Go.IntKind.wrap .i64 (Int.tmod (Go.IntKind.wrap .u64 r) 1001) * Cf.limit c) * 1000) - Int.tmod q 1000000000) - Cf.burst c)) then
        bif decide (S.excess (Cf.mk (Cf.target c) (Cf.util c) (Cf.stable c) (Cf.panic c) (Cf.grain c) (Cf.threshold c) (Cf.up c) (Cf.down c) (Cf.min c) (Cf.max c) (Cf.initial c) (Cf.grace c) (Cf.delay c) (Cf.burst c) (Cf.limit c) (Cf.queue c) (Cf.timeout c) (Cf.ready c) (Cf.subset c) (Cf.sample c)) (-5) (Int.tmod q 1000000000) = Go.IntKind.wrap .i64 (Go.IntKind.wrap .i64 (0 - Int.tmod q 1000000000) - Cf.burst c)) then
          (decide (S.excess (Cf.mk (Cf.target c) (Cf.util c) (Cf.stable c) (Cf.panic c) (Cf.grain c) (Cf.threshold c) (Cf.up c) (Cf.down c) (Cf.min c) (Cf.max c) (Cf.initial c) (Cf.grace c) (Cf.delay c) (Cf.burst c) (Cf.limit c) (Cf.queue c) (Cf.timeout c) (Cf.ready c) (Cf.subset c) (Cf.sample c)) 0 (-9223372036854775808) = Go.IntKind.wrap .i64 (9223372036854775807 - Cf.burst c)))
        else
          (false)
      else
        (false)
theorem S.BurstRoom_v {R : Type} (c : Cf) (r q : Int) (k : AVal → List Blk → Option R) : fnEval tis F6 0 G24 Try.f6 [.agg (cfA c), .int .i64 r, .int .i64 q] [] k = k (.bool (S.BurstRoom c r q)) [] :=
  (S.BurstRoom_k c r q k).trans (bif_lift (f := (fun v : Bool => k (.bool v) [])) rfl (bif_lift (f := (fun v : Bool => k (.bool v) [])) rfl (bif_lift (f := (fun v : Bool => k (.bool v) [])) (bif_lift (f := (fun v : Bool => k (.bool v) [])) rfl rfl) rfl)))
def H6 : Hnd := fun R args σ k => match args, σ with
  | [.agg [.int .i64 target_, .int .i64 util_, .int .i64 stable_, .int .i64 panic_, .int .i64 grain_, .int .i64 threshold_, .int .i64 up_, .int .i64 down_, .int .i64 min_, .int .i64 max_, .int .i64 initial_, .int .i64 grace_, .int .i64 delay_, .int .i64 burst_, .int .i64 limit_, .int .i64 queue_, .int .i64 timeout_, .int .i64 ready_, .int .i64 subset_, .int .i64 sample_], .int .i64 r, .int .i64 q], [] => k (.bool (S.BurstRoom ⟨target_, util_, stable_, panic_, grain_, threshold_, up_, down_, min_, max_, initial_, grace_, delay_, burst_, limit_, queue_, timeout_, ready_, subset_, sample_⟩ r q)) []
  | _, _ => none
theorem H6_ok : HndOk Try.prog 6 H6 := hnd_ok tis tisOk mixOk G24_ok F6 Try.func6 rfl (by
  intro R args σ k r h
  unfold H6 at h
  split at h
  · rename_i target_ util_ stable_ panic_ grain_ threshold_ up_ down_ min_ max_ initial_ grace_ delay_ burst_ limit_ queue_ timeout_ ready_ subset_ sample_ r q; exact ⟨0, (S.BurstRoom_v ⟨target_, util_, stable_, panic_, grain_, threshold_, up_, down_, min_, max_, initial_, grace_, delay_, burst_, limit_, queue_, timeout_, ready_, subset_, sample_⟩ r q _).trans h⟩
  · cases h)
def G6 : Env := Env.add 6 H6 G24
theorem G6_ok : EnvOk Try.prog G6 := envAdd_ok H6_ok G24_ok

/-! spinnakerlaw16.BurstAsks -/
def F7 : FCfg := ⟨keepAt [(0, [1, 2, 3, 4, 9, 10, 11, 12, 13, 14, 15, 16, 17, 18, 19, 20, 21, 22, 23, 24, 25, 26, 27, 28, 29, 30, 31]), (1, [8])], loopAt [], []⟩
theorem S.BurstAsks_k {R : Type} (c : Cf) (r q e : Int) (k : AVal → List Blk → Option R) : fnEval tis F7 0 G6 Try.f7 [.agg (cfA c), .int .i64 r, .int .i64 q, .int .i64 e] [] k =
  (bif decide (S.excess (Cf.mk (Cf.target c) (Cf.util c) (Cf.stable c) (Cf.panic c) (Cf.grain c) (Cf.threshold c) (Cf.up c) (Cf.down c) (Cf.min c) (Cf.max c) (Cf.initial c) (Cf.grace c) (Cf.delay c) (Cf.burst c) (Cf.limit c) (Cf.queue c) (Cf.timeout c) (Cf.ready c) (Cf.subset c) (Cf.sample c)) r q = S.rexcess (Cf.mk (Cf.target c) (Cf.util c) (Cf.stable c) (Cf.panic c) (Cf.grain c) (Cf.threshold c) (Cf.up c) (Cf.down c) (Cf.min c) (Cf.max c) (Cf.initial c) (Cf.grace c) (Cf.delay c) (Cf.burst c) (Cf.limit c) (Cf.queue c) (Cf.timeout c) (Cf.ready c) (Cf.subset c) (Cf.sample c)) r q) then
    k (.bool (S.proxy (Cf.mk (Cf.target c) (Cf.util c) (Cf.stable c) (Cf.panic c) (Cf.grain c) (Cf.threshold c) (Cf.up c) (Cf.down c) (Cf.min c) (Cf.max c) (Cf.initial c) (Cf.grace c) (Cf.delay c) (Cf.burst c) (Cf.limit c) (Cf.queue c) (Cf.timeout c) (Cf.ready c) (Cf.subset c) (Cf.sample c)) r e == S.rproxy (Cf.mk (Cf.target c) (Cf.util c) (Cf.stable c) (Cf.panic c) (Cf.grain c) (Cf.threshold c) (Cf.up c) (Cf.down c) (Cf.min c) (Cf.max c) (Cf.initial c) (Cf.grace c) (Cf.delay c) (Cf.burst c) (Cf.limit c) (Cf.queue c) (Cf.timeout c) (Cf.ready c) (Cf.subset c) (Cf.sample c)) r e)) ([])
  else
    k (.bool false) ([])) := by kernel_rfl
def S.BurstAsks (c : Cf) (r q e : Int) : Bool :=
  bif decide (S.excess (Cf.mk (Cf.target c) (Cf.util c) (Cf.stable c) (Cf.panic c) (Cf.grain c) (Cf.threshold c) (Cf.up c) (Cf.down c) (Cf.min c) (Cf.max c) (Cf.initial c) (Cf.grace c) (Cf.delay c) (Cf.burst c) (Cf.limit c) (Cf.queue c) (Cf.timeout c) (Cf.ready c) (Cf.subset c) (Cf.sample c)) r q = S.rexcess (Cf.mk (Cf.target c) (Cf.util c) (Cf.stable c) (Cf.panic c) (Cf.grain c) (Cf.threshold c) (Cf.up c) (Cf.down c) (Cf.min c) (Cf.max c) (Cf.initial c) (Cf.grace c) (Cf.delay c) (Cf.burst c) (Cf.limit c) (Cf.queue c) (Cf.timeout c) (Cf.ready c) (Cf.subset c) (Cf.sample c)) r q) then
    (S.proxy (Cf.mk (Cf.target c) (Cf.util c) (Cf.stable c) (Cf.panic c) (Cf.grain c) (Cf.threshold c) (Cf.up c) (Cf.down c) (Cf.min c) (Cf.max c) (Cf.initial c) (Cf.grace c) (Cf.delay c) (Cf.burst c) (Cf.limit c) (Cf.queue c) (Cf.timeout c) (Cf.ready c) (Cf.subset c) (Cf.sample c)) r e == S.rproxy (Cf.mk (Cf.target c) (Cf.util c) (Cf.stable c) (Cf.panic c) (Cf.grain c) (Cf.threshold c) (Cf.up c) (Cf.down c) (Cf.min c) (Cf.max c) (Cf.initial c) (Cf.grace c) (Cf.delay c) (Cf.burst c) (Cf.limit c) (Cf.queue c) (Cf.timeout c) (Cf.ready c) (Cf.subset c) (Cf.sample c)) r e)
  else
    (false)
theorem S.BurstAsks_v {R : Type} (c : Cf) (r q e : Int) (k : AVal → List Blk → Option R) : fnEval tis F7 0 G6 Try.f7 [.agg (cfA c), .int .i64 r, .int .i64 q, .int .i64 e] [] k = k (.bool (S.BurstAsks c r q e)) [] :=
  (S.BurstAsks_k c r q e k).trans (bif_lift (f := (fun v : Bool => k (.bool v) [])) rfl rfl)
def H7 : Hnd := fun R args σ k => match args, σ with
  | [.agg [.int .i64 target_, .int .i64 util_, .int .i64 stable_, .int .i64 panic_, .int .i64 grain_, .int .i64 threshold_, .int .i64 up_, .int .i64 down_, .int .i64 min_, .int .i64 max_, .int .i64 initial_, .int .i64 grace_, .int .i64 delay_, .int .i64 burst_, .int .i64 limit_, .int .i64 queue_, .int .i64 timeout_, .int .i64 ready_, .int .i64 subset_, .int .i64 sample_], .int .i64 r, .int .i64 q, .int .i64 e], [] => k (.bool (S.BurstAsks ⟨target_, util_, stable_, panic_, grain_, threshold_, up_, down_, min_, max_, initial_, grace_, delay_, burst_, limit_, queue_, timeout_, ready_, subset_, sample_⟩ r q e)) []
  | _, _ => none
theorem H7_ok : HndOk Try.prog 7 H7 := hnd_ok tis tisOk mixOk G6_ok F7 Try.func7 rfl (by
  intro R args σ k r h
  unfold H7 at h
  split at h
  · rename_i target_ util_ stable_ panic_ grain_ threshold_ up_ down_ min_ max_ initial_ grace_ delay_ burst_ limit_ queue_ timeout_ ready_ subset_ sample_ r q e; exact ⟨0, (S.BurstAsks_v ⟨target_, util_, stable_, panic_, grain_, threshold_, up_, down_, min_, max_, initial_, grace_, delay_, burst_, limit_, queue_, timeout_, ready_, subset_, sample_⟩ r q e _).trans h⟩
  · cases h)
def G7 : Env := Env.add 7 H7 G6
theorem G7_ok : EnvOk Try.prog G7 := envAdd_ok H7_ok G6_ok

/-! spinnakerlaw16.BurstServes -/
def F8 : FCfg := ⟨keepAt [(0, [1, 2, 3, 11, 12, 14, 15, 16, 17, 18, 19, 20, 21, 22, 23, 24, 25, 26, 27, 28, 29, 30, 31, 32, 33, 34, 35, 36, 38, 39, 40, 41, 42, 43, 44, 45, 46, 47, 48, 50, 51, 52, 53, 54, 55, 56, 57, 58, 59, 60, 61, 62, 63, 64, 65, 66]), (1, [1, 2, 3, 13, 14, 15, 16, 17, 18, 19, 20, 21, 22, 23, 24, 25, 26, 27, 28, 29, 30, 31, 32, 33, 34, 35, 36, 38, 39, 40, 41, 42, 43, 44, 45, 46, 47, 48, 50, 51, 52, 53, 54, 55, 56, 57, 58, 59, 60, 61, 62, 63, 64, 65, 66]), (2, [6]), (3, [3, 7, 8, 23, 24, 25, 26, 27, 28, 29, 30, 31, 32, 33, 34, 35, 36, 38, 39, 40, 41, 42, 43, 44, 45, 46, 47, 48, 50, 51, 52, 53, 54, 55, 56, 57, 58, 59, 60, 61, 62, 63, 64, 65, 66]), (4, [3, 7, 8, 9, 30, 31, 32, 33, 34, 35, 36, 38, 39, 40, 41, 42, 43, 44, 45, 46, 47, 48, 50, 51, 52, 53, 54, 55, 56, 57, 58, 59, 60, 61, 62, 63, 64, 65, 66]), (5, [3, 7, 9, 10, 38, 39, 40, 41, 42, 43, 44, 45, 46, 47, 48, 50, 51, 52, 53, 54, 55, 56, 57, 58, 59, 60, 61, 62, 63, 64, 65, 66]), (6, [3, 9, 10, 37, 45, 46, 47, 48, 50, 51, 52, 53, 54, 55, 56, 57, 58, 59, 60, 61, 62, 63, 64, 65, 66]), (7, [6]), (8, [3, 9, 10, 49, 53, 54, 55, 56, 57, 58, 59, 60, 61, 62, 63, 64, 65, 66]), (9, [6]), (10, [6])], loopAt [], []⟩
theorem S.BurstServes_k {R : Type} (c : Cf) (r q : Int) (k : AVal → List Blk → Option R) : fnEval tis F8 0 G7 Try.f8 [.agg (cfA c), .int .i64 r, .int .i64 q] [] k =
  (bif !S.rmay (Cf.mk (Cf.target c) (Cf.util c) (Cf.stable c) (Cf.panic c) (Cf.grain c) (Cf.threshold c) (Cf.up c) (Cf.down c) (Cf.min c) (Cf.max c) (Cf.initial c) (Cf.grace c) (Cf.delay c) (Cf.burst c) (Cf.limit c) (Cf.queue c) (Cf.timeout c) (Cf.ready c) (Cf.subset c) (Cf.sample c)) then
    k (.bool true) ([])
  else
    bif decide (Cf.burst c = -1000) then
      k (.bool (S.proxy (Cf.mk (Cf.target c) (Cf.util c) (Cf.stable c) (Cf.panic c) (Cf.grain c) (Cf.threshold c) (Cf.up c) (Cf.down c) (Cf.min c) (Cf.max c) (Cf.initial c) (Cf.grace c) (Cf.delay c) (Cf.burst c) (Cf.limit c) (Cf.queue c) (Cf.timeout c) (Cf.ready c) (Cf.subset c) (Cf.sample c)) (Go.IntKind.wrap .i64 (Int.tmod (Go.IntKind.wrap .u64 r) 1001)) (S.excess (Cf.mk (Cf.target c) (Cf.util c) (Cf.stable c) (Cf.panic c) (Cf.grain c) (Cf.threshold c) (Cf.up c) (Cf.down c) (Cf.min c) (Cf.max c) (Cf.initial c) (Cf.grace c) (Cf.delay c) (Cf.burst c) (Cf.limit c) (Cf.queue c) (Cf.timeout c) (Cf.ready c) (Cf.subset c) (Cf.sample c)) (Go.IntKind.wrap .i64 (Int.tmod (Go.IntKind.wrap .u64 r) 1001)) (Go.IntKind.wrap .i64 (Int.tmod (Go.IntKind.wrap .u64 q) 1000000000))))) ([])
    else
      bif decide (Go.IntKind.wrap .i64 (Int.tmod (Go.IntKind.wrap .u64 r) 1001) = 0) then
        k (.bool (S.proxy (Cf.mk (Cf.target c) (Cf.util c) (Cf.stable c) (Cf.panic c) (Cf.grain c) (Cf.threshold c) (Cf.up c) (Cf.down c) (Cf.min c) (Cf.max c) (Cf.initial c) (Cf.grace c) (Cf.delay c) (Cf.burst c) (Cf.limit c) (Cf.queue c) (Cf.timeout c) (Cf.ready c) (Cf.subset c) (Cf.sample c)) (Go.IntKind.wrap .i64 (Int.tmod (Go.IntKind.wrap .u64 r) 1001)) (S.excess (Cf.mk (Cf.target c) (Cf.util c) (Cf.stable c) (Cf.panic c) (Cf.grain c) (Cf.threshold c) (Cf.up c) (Cf.down c) (Cf.min c) (Cf.max c) (Cf.initial c) (Cf.grace c) (Cf.delay c) (Cf.burst c) (Cf.limit c) (Cf.queue c) (Cf.timeout c) (Cf.ready c) (Cf.subset c) (Cf.sample c)) (Go.IntKind.wrap .i64 (Int.tmod (Go.IntKind.wrap .u64 r) 1001)) (Go.IntKind.wrap .i64 (Int.tmod (Go.IntKind.wrap .u64 q) 1000000000))))) ([])
      else
        bif decide (Cf.burst c = 0) then
          k (.bool !S.proxy (Cf.mk (Cf.target c) (Cf.util c) (Cf.stable c) (Cf.panic c) (Cf.grain c) (Cf.threshold c) (Cf.up c) (Cf.down c) (Cf.min c) (Cf.max c) (Cf.initial c) (Cf.grace c) (Cf.delay c) (Cf.burst c) (Cf.limit c) (Cf.queue c) (Cf.timeout c) (Cf.ready c) (Cf.subset c) (Cf.sample c)) (Go.IntKind.wrap .i64 (Int.tmod (Go.IntKind.wrap .u64 r) 1001)) (S.excess (Cf.mk (Cf.target c) (Cf.util c) (Cf.stable c) (Cf.panic c) (Cf.grain c) (Cf.threshold c) (Cf.up c) (Cf.down c) (Cf.min c) (Cf.max c) (Cf.initial c) (Cf.grace c) (Cf.delay c) (Cf.burst c) (Cf.limit c) (Cf.queue c) (Cf.timeout c) (Cf.ready c) (Cf.subset c) (Cf.sample c)) (Go.IntKind.wrap .i64 (Int.tmod (Go.IntKind.wrap .u64 r) 1001)) (Go.IntKind.wrap .i64 (Int.tmod (Go.IntKind.wrap .u64 q) 1000000000)))) ([])
        else
          k (.bool (S.proxy (Cf.mk (Cf.target c) (Cf.util c) (Cf.stable c) (Cf.panic c) (Cf.grain c) (Cf.threshold c) (Cf.up c) (Cf.down c) (Cf.min c) (Cf.max c) (Cf.initial c) (Cf.grace c) (Cf.delay c) (Cf.burst c) (Cf.limit c) (Cf.queue c) (Cf.timeout c) (Cf.ready c) (Cf.subset c) (Cf.sample c)) (Go.IntKind.wrap .i64 (Int.tmod (Go.IntKind.wrap .u64 r) 1001)) (S.excess (Cf.mk (Cf.target c) (Cf.util c) (Cf.stable c) (Cf.panic c) (Cf.grain c) (Cf.threshold c) (Cf.up c) (Cf.down c) (Cf.min c) (Cf.max c) (Cf.initial c) (Cf.grace c) (Cf.delay c) (Cf.burst c) (Cf.limit c) (Cf.queue c) (Cf.timeout c) (Cf.ready c) (Cf.subset c) (Cf.sample c)) (Go.IntKind.wrap .i64 (Int.tmod (Go.IntKind.wrap .u64 r) 1001)) (Go.IntKind.wrap .i64 (Int.tmod (Go.IntKind.wrap .u64 q) 1000000000))) == decide (Go.IntKind.wrap .i64 (Go.IntKind.wrap .i64 (Go.IntKind.wrap .i64 (Go.IntKind.wrap .i64 (Int.tmod (Go.IntKind.wrap .u64 r) 1001) * Cf.limit c) * 1000) - Go.IntKind.wrap .i64 (Int.tmod (Go.IntKind.wrap .u64 q) 1000000000)) < Cf.burst c))) ([])) := by kernel_rfl
def S.BurstServes (c : Cf) (r q : Int) : Bool :=
  bif !S.rmay (Cf.mk (Cf.target c) (Cf.util c) (Cf.stable c) (Cf.panic c) (Cf.grain c) (Cf.threshold c) (Cf.up c) (Cf.down c) (Cf.min c) (Cf.max c) (Cf.initial c) (Cf.grace c) (Cf.delay c) (Cf.burst c) (Cf.limit c) (Cf.queue c) (Cf.timeout c) (Cf.ready c) (Cf.subset c) (Cf.sample c)) then
    (true)
  else
    bif decide (Cf.burst c = -1000) then
      (S.proxy (Cf.mk (Cf.target c) (Cf.util c) (Cf.stable c) (Cf.panic c) (Cf.grain c) (Cf.threshold c) (Cf.up c) (Cf.down c) (Cf.min c) (Cf.max c) (Cf.initial c) (Cf.grace c) (Cf.delay c) (Cf.burst c) (Cf.limit c) (Cf.queue c) (Cf.timeout c) (Cf.ready c) (Cf.subset c) (Cf.sample c)) (Go.IntKind.wrap .i64 (Int.tmod (Go.IntKind.wrap .u64 r) 1001)) (S.excess (Cf.mk (Cf.target c) (Cf.util c) (Cf.stable c) (Cf.panic c) (Cf.grain c) (Cf.threshold c) (Cf.up c) (Cf.down c) (Cf.min c) (Cf.max c) (Cf.initial c) (Cf.grace c) (Cf.delay c) (Cf.burst c) (Cf.limit c) (Cf.queue c) (Cf.timeout c) (Cf.ready c) (Cf.subset c) (Cf.sample c)) (Go.IntKind.wrap .i64 (Int.tmod (Go.IntKind.wrap .u64 r) 1001)) (Go.IntKind.wrap .i64 (Int.tmod (Go.IntKind.wrap .u64 q) 1000000000))))
    else
      bif decide (Go.IntKind.wrap .i64 (Int.tmod (Go.IntKind.wrap .u64 r) 1001) = 0) then
        (S.proxy (Cf.mk (Cf.target c) (Cf.util c) (Cf.stable c) (Cf.panic c) (Cf.grain c) (Cf.threshold c) (Cf.up c) (Cf.down c) (Cf.min c) (Cf.max c) (Cf.initial c) (Cf.grace c) (Cf.delay c) (Cf.burst c) (Cf.limit c) (Cf.queue c) (Cf.timeout c) (Cf.ready c) (Cf.subset c) (Cf.sample c)) (Go.IntKind.wrap .i64 (Int.tmod (Go.IntKind.wrap .u64 r) 1001)) (S.excess (Cf.mk (Cf.target c) (Cf.util c) (Cf.stable c) (Cf.panic c) (Cf.grain c) (Cf.threshold c) (Cf.up c) (Cf.down c) (Cf.min c) (Cf.max c) (Cf.initial c) (Cf.grace c) (Cf.delay c) (Cf.burst c) (Cf.limit c) (Cf.queue c) (Cf.timeout c) (Cf.ready c) (Cf.subset c) (Cf.sample c)) (Go.IntKind.wrap .i64 (Int.tmod (Go.IntKind.wrap .u64 r) 1001)) (Go.IntKind.wrap .i64 (Int.tmod (Go.IntKind.wrap .u64 q) 1000000000))))
      else
        bif decide (Cf.burst c = 0) then
          (!S.proxy (Cf.mk (Cf.target c) (Cf.util c) (Cf.stable c) (Cf.panic c) (Cf.grain c) (Cf.threshold c) (Cf.up c) (Cf.down c) (Cf.min c) (Cf.max c) (Cf.initial c) (Cf.grace c) (Cf.delay c) (Cf.burst c) (Cf.limit c) (Cf.queue c) (Cf.timeout c) (Cf.ready c) (Cf.subset c) (Cf.sample c)) (Go.IntKind.wrap .i64 (Int.tmod (Go.IntKind.wrap .u64 r) 1001)) (S.excess (Cf.mk (Cf.target c) (Cf.util c) (Cf.stable c) (Cf.panic c) (Cf.grain c) (Cf.threshold c) (Cf.up c) (Cf.down c) (Cf.min c) (Cf.max c) (Cf.initial c) (Cf.grace c) (Cf.delay c) (Cf.burst c) (Cf.limit c) (Cf.queue c) (Cf.timeout c) (Cf.ready c) (Cf.subset c) (Cf.sample c)) (Go.IntKind.wrap .i64 (Int.tmod (Go.IntKind.wrap .u64 r) 1001)) (Go.IntKind.wrap .i64 (Int.tmod (Go.IntKind.wrap .u64 q) 1000000000))))
        else
          (S.proxy (Cf.mk (Cf.target c) (Cf.util c) (Cf.stable c) (Cf.panic c) (Cf.grain c) (Cf.threshold c) (Cf.up c) (Cf.down c) (Cf.min c) (Cf.max c) (Cf.initial c) (Cf.grace c) (Cf.delay c) (Cf.burst c) (Cf.limit c) (Cf.queue c) (Cf.timeout c) (Cf.ready c) (Cf.subset c) (Cf.sample c)) (Go.IntKind.wrap .i64 (Int.tmod (Go.IntKind.wrap .u64 r) 1001)) (S.excess (Cf.mk (Cf.target c) (Cf.util c) (Cf.stable c) (Cf.panic c) (Cf.grain c) (Cf.threshold c) (Cf.up c) (Cf.down c) (Cf.min c) (Cf.max c) (Cf.initial c) (Cf.grace c) (Cf.delay c) (Cf.burst c) (Cf.limit c) (Cf.queue c) (Cf.timeout c) (Cf.ready c) (Cf.subset c) (Cf.sample c)) (Go.IntKind.wrap .i64 (Int.tmod (Go.IntKind.wrap .u64 r) 1001)) (Go.IntKind.wrap .i64 (Int.tmod (Go.IntKind.wrap .u64 q) 1000000000))) == decide (Go.IntKind.wrap .i64 (Go.IntKind.wrap .i64 (Go.IntKind.wrap .i64 (Go.IntKind.wrap .i64 (Int.tmod (Go.IntKind.wrap .u64 r) 1001) * Cf.limit c) * 1000) - Go.IntKind.wrap .i64 (Int.tmod (Go.IntKind.wrap .u64 q) 1000000000)) < Cf.burst c))
theorem S.BurstServes_v {R : Type} (c : Cf) (r q : Int) (k : AVal → List Blk → Option R) : fnEval tis F8 0 G7 Try.f8 [.agg (cfA c), .int .i64 r, .int .i64 q] [] k = k (.bool (S.BurstServes c r q)) [] :=
  (S.BurstServes_k c r q k).trans (bif_lift (f := (fun v : Bool => k (.bool v) [])) rfl (bif_lift (f := (fun v : Bool => k (.bool v) [])) rfl (bif_lift (f := (fun v : Bool => k (.bool v) [])) rfl (bif_lift (f := (fun v : Bool => k (.bool v) [])) rfl rfl))))
def H8 : Hnd := fun R args σ k => match args, σ with
  | [.agg [.int .i64 target_, .int .i64 util_, .int .i64 stable_, .int .i64 panic_, .int .i64 grain_, .int .i64 threshold_, .int .i64 up_, .int .i64 down_, .int .i64 min_, .int .i64 max_, .int .i64 initial_, .int .i64 grace_, .int .i64 delay_, .int .i64 burst_, .int .i64 limit_, .int .i64 queue_, .int .i64 timeout_, .int .i64 ready_, .int .i64 subset_, .int .i64 sample_], .int .i64 r, .int .i64 q], [] => k (.bool (S.BurstServes ⟨target_, util_, stable_, panic_, grain_, threshold_, up_, down_, min_, max_, initial_, grace_, delay_, burst_, limit_, queue_, timeout_, ready_, subset_, sample_⟩ r q)) []
  | _, _ => none
theorem H8_ok : HndOk Try.prog 8 H8 := hnd_ok tis tisOk mixOk G7_ok F8 Try.func8 rfl (by
  intro R args σ k r h
  unfold H8 at h
  split at h
  · rename_i target_ util_ stable_ panic_ grain_ threshold_ up_ down_ min_ max_ initial_ grace_ delay_ burst_ limit_ queue_ timeout_ ready_ subset_ sample_ r q; exact ⟨0, (S.BurstServes_v ⟨target_, util_, stable_, panic_, grain_, threshold_, up_, down_, min_, max_, initial_, grace_, delay_, burst_, limit_, queue_, timeout_, ready_, subset_, sample_⟩ r q _).trans h⟩
  · cases h)
def G8 : Env := Env.add 8 H8 G7
theorem G8_ok : EnvOk Try.prog G8 := envAdd_ok H8_ok G7_ok

/-! spinnakerlaw16.BurstMore -/
def F9 : FCfg := ⟨keepAt [(0, [1, 2, 3, 4, 5, 17, 18, 20, 21, 22, 23, 24, 25, 26, 27, 28, 29, 30, 31, 32, 33, 34, 35, 36, 37, 38, 40, 41, 42, 43, 45, 46, 47, 48, 49, 50, 51, 52, 53, 54, 55, 56, 57, 58, 59, 60, 61, 62, 63, 64, 65, 66, 67, 68, 69, 70, 71, 72, 73]), (1, [1, 2, 3, 4, 5, 19, 20, 21, 22, 23, 24, 25, 26, 27, 28, 29, 30, 31, 32, 33, 34, 35, 36, 37, 38, 40, 41, 42, 43, 45, 46, 47, 48, 49, 50, 51, 52, 53, 54, 55, 56, 57, 58, 59, 60, 61, 62, 63, 64, 65, 66, 67, 68, 69, 70, 71, 72, 73]), (2, [10]), (3, [3, 4, 5, 11, 12, 29, 30, 31, 32, 33, 34, 35, 36, 37, 38, 40, 41, 42, 43, 45, 46, 47, 48, 49, 50, 51, 52, 53, 54, 55, 56, 57, 58, 59, 60, 61, 62, 63, 64, 65, 66, 67, 68, 69, 70, 71, 72, 73]), (4, [5, 11, 12, 13, 14, 37, 38, 40, 41, 42, 43, 45, 46, 47, 48, 49, 50, 51, 52, 53, 54, 55, 56, 57, 58, 59, 60, 61, 62, 63, 64, 65, 66, 67, 68, 69, 70, 71, 72, 73]), (5, [5, 11, 12, 13, 14, 39, 40, 41, 42, 43, 45, 46, 47, 48, 49, 50, 51, 52, 53, 54, 55, 56, 57, 58, 59, 60, 61, 62, 63, 64, 65, 66, 67, 68, 69, 70, 71, 72, 73]), (6, [5, 11, 12, 13, 14, 42, 43, 45, 46, 47, 48, 49, 50, 51, 52, 53, 54, 55, 56, 57, 58, 59, 60, 61, 62, 63, 64, 65, 66, 67, 68, 69, 70, 71, 72, 73]), (7, [5, 11, 12, 13, 14, 44, 45, 46, 47, 48, 49, 50, 51, 52, 53, 54, 55, 56, 57, 58, 59, 60, 61, 62, 63, 64, 65, 66, 67, 68, 69, 70, 71, 72, 73]), (8, [5, 11, 12, 13, 14, 47, 48, 49, 50, 51, 52, 53, 54, 55, 56, 57, 58, 59, 60, 61, 62, 63, 64, 65, 66, 67, 68, 69, 70, 71, 72, 73]), (9, [5, 11, 12, 15, 16, 55, 56, 57, 58, 59, 60, 61, 62, 63, 64, 65, 66, 67, 68, 69, 70, 71, 72, 73]), (10, [10])], loopAt [], []⟩
theorem S.BurstMore_k {R : Type} (c : Cf) (a b x y : Int) (k : AVal → List Blk → Option R) : fnEval tis F9 0 G8 Try.f9 [.agg (cfA c), .int .i64 a, .int .i64 b, .int .i64 x, .int .i64 y] [] k =
  (bif !S.rmay (Cf.mk (Cf.target c) (Cf.util c) (Cf.stable c) (Cf.panic c) (Cf.grain c) (Cf.threshold c) (Cf.up c) (Cf.down c) (Cf.min c) (Cf.max c) (Cf.initial c) (Cf.grace c) (Cf.delay c) (Cf.burst c) (Cf.limit c) (Cf.queue c) (Cf.timeout c) (Cf.ready c) (Cf.subset c) (Cf.sample c)) then
    k (.bool true) ([])
  else
    bif decide (Go.IntKind.wrap .i64 (Int.tmod (Go.IntKind.wrap .u64 b) 1000) < Go.IntKind.wrap .i64 (Int.tmod (Go.IntKind.wrap .u64 a) 1000)) then
      bif decide (Go.IntKind.wrap .i64 (Int.tmod (Go.IntKind.wrap .u64 x) 1000000000) < Go.IntKind.wrap .i64 (Int.tmod (Go.IntKind.wrap .u64 y) 1000000000)) then
        bif decide (S.excess (Cf.mk (Cf.target c) (Cf.util c) (Cf.stable c) (Cf.panic c) (Cf.grain c) (Cf.threshold c) (Cf.up c) (Cf.down c) (Cf.min c) (Cf.max c) (Cf.initial c) (Cf.grace c) (Cf.delay c) (Cf.burst c) (Cf.limit c) (Cf.queue c) (Cf.timeout c) (Cf.ready c) (Cf.subset c) (Cf.sample c)) (Go.IntKind.wrap .i64 (Int.tmod (Go.IntKind.wrap .u64 b) 1000)) (Go.IntKind.wrap .i64 (Int.tmod (Go.IntKind.wrap .u64 y) 1000000000)) ≤ S.excess (Cf.mk (Cf.target c) (Cf.util c) (Cf.stable c) (Cf.panic c) (Cf.grain c) (Cf.threshold c) (Cf.up c) (Cf.down c) (Cf.min c) (Cf.max c) (Cf.initial c) (Cf.grace c) (Cf.delay c) (Cf.burst c) (Cf.limit c) (Cf.queue c) (Cf.timeout c) (Cf.ready c) (Cf.subset c) (Cf.sample c)) (Go.IntKind.wrap .i64 (Int.tmod (Go.IntKind.wrap .u64 a) 1000)) (Go.IntKind.wrap .i64 (Int.tmod (Go.IntKind.wrap .u64 x) 1000000000))) then
          bif !S.proxy (Cf.mk (Cf.target c) (Cf.util c) (Cf.stable c) (Cf.panic c) (Cf.grain c) (Cf.threshold c) (Cf.up c) (Cf.down c) (Cf.min c) (Cf.max c) (Cf.initial c) (Cf.grace c) (Cf.delay c) (Cf.burst c) (Cf.limit c) (Cf.queue c) (Cf.timeout c) (Cf.ready c) (Cf.subset c) (Cf.sample c)) (Go.IntKind.wrap .i64 (Int.tmod (Go.IntKind.wrap .u64 a) 1000)) (S.excess (Cf.mk (Cf.target c) (Cf.util c) (Cf.stable c) (Cf.panic c) (Cf.grain c) (Cf.threshold c) (Cf.up c) (Cf.down c) (Cf.min c) (Cf.max c) (Cf.initial c) (Cf.grace c) (Cf.delay c) (Cf.burst c) (Cf.limit c) (Cf.queue c) (Cf.timeout c) (Cf.ready c) (Cf.subset c) (Cf.sample c)) (Go.IntKind.wrap .i64 (Int.tmod (Go.IntKind.wrap .u64 a) 1000)) (Go.IntKind.wrap .i64 (Int.tmod (Go.IntKind.wrap .u64 x) 1000000000))) then
            k (.bool true) ([])
          else
            k (.bool (S.proxy (Cf.mk (Cf.target c) (Cf.util c) (Cf.stable c) (Cf.panic c) (Cf.grain c) (Cf.threshold c) (Cf.up c) (Cf.down c) (Cf.min c) (Cf.max c) (Cf.initial c) (Cf.grace c) (Cf.delay c) (Cf.burst c) (Cf.limit c) (Cf.queue c) (Cf.timeout c) (Cf.ready c) (Cf.subset c) (Cf.sample c)) (Go.IntKind.wrap .i64 (Int.tmod (Go.IntKind.wrap .u64 b) 1000)) (S.excess (Cf.mk (Cf.target c) (Cf.util c) (Cf.stable c) (Cf.panic c) (Cf.grain c) (Cf.threshold c) (Cf.up c) (Cf.down c) (Cf.min c) (Cf.max c) (Cf.initial c) (Cf.grace c) (Cf.delay c) (Cf.burst c) (Cf.limit c) (Cf.queue c) (Cf.timeout c) (Cf.ready c) (Cf.subset c) (Cf.sample c)) (Go.IntKind.wrap .i64 (Int.tmod (Go.IntKind.wrap .u64 b) 1000)) (Go.IntKind.wrap .i64 (Int.tmod (Go.IntKind.wrap .u64 y) 1000000000))))) ([])
        else
          k (.bool false) ([])
      else
        bif decide (S.excess (Cf.mk (Cf.target c) (Cf.util c) (Cf.stable c) (Cf.panic c) (Cf.grain c) (Cf.threshold c) (Cf.up c) (Cf.down c) (Cf.min c) (Cf.max c) (Cf.initial c) (Cf.grace c) (Cf.delay c) (Cf.burst c) (Cf.limit c) (Cf.queue c) (Cf.timeout c) (Cf.ready c) (Cf.subset c) (Cf.sample c)) (Go.IntKind.wrap .i64 (Int.tmod (Go.IntKind.wrap .u64 b) 1000)) (Go.IntKind.wrap .i64 (Int.tmod (Go.IntKind.wrap .u64 x) 1000000000)) ≤ S.excess (Cf.mk (Cf.target c) (Cf.util c) (Cf.stable c) (Cf.panic c) (Cf.grain c) (Cf.threshold c) (Cf.up c) (Cf.down c) (Cf.min c) (Cf.max c) (Cf.initial c) (Cf.grace c) (Cf.delay c) (Cf.burst c) (Cf.limit c) (Cf.queue c) (Cf.timeout c) (Cf.ready c) (Cf.subset c) (Cf.sample c)) (Go.IntKind.wrap .i64 (Int.tmod (Go.IntKind.wrap .u64 a) 1000)) (Go.IntKind.wrap .i64 (Int.tmod (Go.IntKind.wrap .u64 y) 1000000000))) then
          bif !S.proxy (Cf.mk (Cf.target c) (Cf.util c) (Cf.stable c) (Cf.panic c) (Cf.grain c) (Cf.threshold c) (Cf.up c) (Cf.down c) (Cf.min c) (Cf.max c) (Cf.initial c) (Cf.grace c) (Cf.delay c) (Cf.burst c) (Cf.limit c) (Cf.queue c) (Cf.timeout c) (Cf.ready c) (Cf.subset c) (Cf.sample c)) (Go.IntKind.wrap .i64 (Int.tmod (Go.IntKind.wrap .u64 a) 1000)) (S.excess (Cf.mk (Cf.target c) (Cf.util c) (Cf.stable c) (Cf.panic c) (Cf.grain c) (Cf.threshold c) (Cf.up c) (Cf.down c) (Cf.min c) (Cf.max c) (Cf.initial c) (Cf.grace c) (Cf.delay c) (Cf.burst c) (Cf.limit c) (Cf.queue c) (Cf.timeout c) (Cf.ready c) (Cf.subset c) (Cf.sample c)) (Go.IntKind.wrap .i64 (Int.tmod (Go.IntKind.wrap .u64 a) 1000)) (Go.IntKind.wrap .i64 (Int.tmod (Go.IntKind.wrap .u64 y) 1000000000))) then
            k (.bool true) ([])
          else
            k (.bool (S.proxy (Cf.mk (Cf.target c) (Cf.util c) (Cf.stable c) (Cf.panic c) (Cf.grain c) (Cf.threshold c) (Cf.up c) (Cf.down c) (Cf.min c) (Cf.max c) (Cf.initial c) (Cf.grace c) (Cf.delay c) (Cf.burst c) (Cf.limit c) (Cf.queue c) (Cf.timeout c) (Cf.ready c) (Cf.subset c) (Cf.sample c)) (Go.IntKind.wrap .i64 (Int.tmod (Go.IntKind.wrap .u64 b) 1000)) (S.excess (Cf.mk (Cf.target c) (Cf.util c) (Cf.stable c) (Cf.panic c) (Cf.grain c) (Cf.threshold c) (Cf.up c) (Cf.down c) (Cf.min c) (Cf.max c) (Cf.initial c) (Cf.grace c) (Cf.delay c) (Cf.burst c) (Cf.limit c) (Cf.queue c) (Cf.timeout c) (Cf.ready c) (Cf.subset c) (Cf.sample c)) (Go.IntKind.wrap .i64 (Int.tmod (Go.IntKind.wrap .u64 b) 1000)) (Go.IntKind.wrap .i64 (Int.tmod (Go.IntKind.wrap .u64 x) 1000000000))))) ([])
        else
          k (.bool false) ([])
    else
      bif decide (Go.IntKind.wrap .i64 (Int.tmod (Go.IntKind.wrap .u64 x) 1000000000) < Go.IntKind.wrap .i64 (Int.tmod (Go.IntKind.wrap .u64 y) 1000000000)) then
        bif decide (S.excess (Cf.mk (Cf.target c) (Cf.util c) (Cf.stable c) (Cf.panic c) (Cf.grain c) (Cf.threshold c) (Cf.up c) (Cf.down c) (Cf.min c) (Cf.max c) (Cf.initial c) (Cf.grace c) (Cf.delay c) (Cf.burst c) (Cf.limit c) (Cf.queue c) (Cf.timeout c) (Cf.ready c) (Cf.subset c) (Cf.sample c)) (Go.IntKind.wrap .i64 (Int.tmod (Go.IntKind.wrap .u64 a) 1000)) (Go.IntKind.wrap .i64 (Int.tmod (Go.IntKind.wrap .u64 y) 1000000000)) ≤ S.excess (Cf.mk (Cf.target c) (Cf.util c) (Cf.stable c) (Cf.panic c) (Cf.grain c) (Cf.threshold c) (Cf.up c) (Cf.down c) (Cf.min c) (Cf.max c) (Cf.initial c) (Cf.grace c) (Cf.delay c) (Cf.burst c) (Cf.limit c) (Cf.queue c) (Cf.timeout c) (Cf.ready c) (Cf.subset c) (Cf.sample c)) (Go.IntKind.wrap .i64 (Int.tmod (Go.IntKind.wrap .u64 b) 1000)) (Go.IntKind.wrap .i64 (Int.tmod (Go.IntKind.wrap .u64 x) 1000000000))) then
          bif !S.proxy (Cf.mk (Cf.target c) (Cf.util c) (Cf.stable c) (Cf.panic c) (Cf.grain c) (Cf.threshold c) (Cf.up c) (Cf.down c) (Cf.min c) (Cf.max c) (Cf.initial c) (Cf.grace c) (Cf.delay c) (Cf.burst c) (Cf.limit c) (Cf.queue c) (Cf.timeout c) (Cf.ready c) (Cf.subset c) (Cf.sample c)) (Go.IntKind.wrap .i64 (Int.tmod (Go.IntKind.wrap .u64 b) 1000)) (S.excess (Cf.mk (Cf.target c) (Cf.util c) (Cf.stable c) (Cf.panic c) (Cf.grain c) (Cf.threshold c) (Cf.up c) (Cf.down c) (Cf.min c) (Cf.max c) (Cf.initial c) (Cf.grace c) (Cf.delay c) (Cf.burst c) (Cf.limit c) (Cf.queue c) (Cf.timeout c) (Cf.ready c) (Cf.subset c) (Cf.sample c)) (Go.IntKind.wrap .i64 (Int.tmod (Go.IntKind.wrap .u64 b) 1000)) (Go.IntKind.wrap .i64 (Int.tmod (Go.IntKind.wrap .u64 x) 1000000000))) then
            k (.bool true) ([])
          else
            k (.bool (S.proxy (Cf.mk (Cf.target c) (Cf.util c) (Cf.stable c) (Cf.panic c) (Cf.grain c) (Cf.threshold c) (Cf.up c) (Cf.down c) (Cf.min c) (Cf.max c) (Cf.initial c) (Cf.grace c) (Cf.delay c) (Cf.burst c) (Cf.limit c) (Cf.queue c) (Cf.timeout c) (Cf.ready c) (Cf.subset c) (Cf.sample c)) (Go.IntKind.wrap .i64 (Int.tmod (Go.IntKind.wrap .u64 a) 1000)) (S.excess (Cf.mk (Cf.target c) (Cf.util c) (Cf.stable c) (Cf.panic c) (Cf.grain c) (Cf.threshold c) (Cf.up c) (Cf.down c) (Cf.min c) (Cf.max c) (Cf.initial c) (Cf.grace c) (Cf.delay c) (Cf.burst c) (Cf.limit c) (Cf.queue c) (Cf.timeout c) (Cf.ready c) (Cf.subset c) (Cf.sample c)) (Go.IntKind.wrap .i64 (Int.tmod (Go.IntKind.wrap .u64 a) 1000)) (Go.IntKind.wrap .i64 (Int.tmod (Go.IntKind.wrap .u64 y) 1000000000))))) ([])
        else
          k (.bool false) ([])
      else
        bif decide (S.excess (Cf.mk (Cf.target c) (Cf.util c) (Cf.stable c) (Cf.panic c) (Cf.grain c) (Cf.threshold c) (Cf.up c) (Cf.down c) (Cf.min c) (Cf.max c) (Cf.initial c) (Cf.grace c) (Cf.delay c) (Cf.burst c) (Cf.limit c) (Cf.queue c) (Cf.timeout c) (Cf.ready c) (Cf.subset c) (Cf.sample c)) (Go.IntKind.wrap .i64 (Int.tmod (Go.IntKind.wrap .u64 a) 1000)) (Go.IntKind.wrap .i64 (Int.tmod (Go.IntKind.wrap .u64 x) 1000000000)) ≤ S.excess (Cf.mk (Cf.target c) (Cf.util c) (Cf.stable c) (Cf.panic c) (Cf.grain c) (Cf.threshold c) (Cf.up c) (Cf.down c) (Cf.min c) (Cf.max c) (Cf.initial c) (Cf.grace c) (Cf.delay c) (Cf.burst c) (Cf.limit c) (Cf.queue c) (Cf.timeout c) (Cf.ready c) (Cf.subset c) (Cf.sample c)) (Go.IntKind.wrap .i64 (Int.tmod (Go.IntKind.wrap .u64 b) 1000)) (Go.IntKind.wrap .i64 (Int.tmod (Go.IntKind.wrap .u64 y) 1000000000))) then
          bif !S.proxy (Cf.mk (Cf.target c) (Cf.util c) (Cf.stable c) (Cf.panic c) (Cf.grain c) (Cf.threshold c) (Cf.up c) (Cf.down c) (Cf.min c) (Cf.max c) (Cf.initial c) (Cf.grace c) (Cf.delay c) (Cf.burst c) (Cf.limit c) (Cf.queue c) (Cf.timeout c) (Cf.ready c) (Cf.subset c) (Cf.sample c)) (Go.IntKind.wrap .i64 (Int.tmod (Go.IntKind.wrap .u64 b) 1000)) (S.excess (Cf.mk (Cf.target c) (Cf.util c) (Cf.stable c) (Cf.panic c) (Cf.grain c) (Cf.threshold c) (Cf.up c) (Cf.down c) (Cf.min c) (Cf.max c) (Cf.initial c) (Cf.grace c) (Cf.delay c) (Cf.burst c) (Cf.limit c) (Cf.queue c) (Cf.timeout c) (Cf.ready c) (Cf.subset c) (Cf.sample c)) (Go.IntKind.wrap .i64 (Int.tmod (Go.IntKind.wrap .u64 b) 1000)) (Go.IntKind.wrap .i64 (Int.tmod (Go.IntKind.wrap .u64 y) 1000000000))) then
            k (.bool true) ([])
          else
            k (.bool (S.proxy (Cf.mk (Cf.target c) (Cf.util c) (Cf.stable c) (Cf.panic c) (Cf.grain c) (Cf.threshold c) (Cf.up c) (Cf.down c) (Cf.min c) (Cf.max c) (Cf.initial c) (Cf.grace c) (Cf.delay c) (Cf.burst c) (Cf.limit c) (Cf.queue c) (Cf.timeout c) (Cf.ready c) (Cf.subset c) (Cf.sample c)) (Go.IntKind.wrap .i64 (Int.tmod (Go.IntKind.wrap .u64 a) 1000)) (S.excess (Cf.mk (Cf.target c) (Cf.util c) (Cf.stable c) (Cf.panic c) (Cf.grain c) (Cf.threshold c) (Cf.up c) (Cf.down c) (Cf.min c) (Cf.max c) (Cf.initial c) (Cf.grace c) (Cf.delay c) (Cf.burst c) (Cf.limit c) (Cf.queue c) (Cf.timeout c) (Cf.ready c) (Cf.subset c) (Cf.sample c)) (Go.IntKind.wrap .i64 (Int.tmod (Go.IntKind.wrap .u64 a) 1000)) (Go.IntKind.wrap .i64 (Int.tmod (Go.IntKind.wrap .u64 x) 1000000000))))) ([])
        else
          k (.bool false) ([])) := by kernel_rfl
def S.BurstMore (c : Cf) (a b x y : Int) : Bool :=
  bif !S.rmay (Cf.mk (Cf.target c) (Cf.util c) (Cf.stable c) (Cf.panic c) (Cf.grain c) (Cf.threshold c) (Cf.up c) (Cf.down c) (Cf.min c) (Cf.max c) (Cf.initial c) (Cf.grace c) (Cf.delay c) (Cf.burst c) (Cf.limit c) (Cf.queue c) (Cf.timeout c) (Cf.ready c) (Cf.subset c) (Cf.sample c)) then
    (true)
  else
    bif decide (Go.IntKind.wrap .i64 (Int.tmod (Go.IntKind.wrap .u64 b) 1000) < Go.IntKind.wrap .i64 (Int.tmod (Go.IntKind.wrap .u64 a) 1000)) then
      bif decide (Go.IntKind.wrap .i64 (Int.tmod (Go.IntKind.wrap .u64 x) 1000000000) < Go.IntKind.wrap .i64 (Int.tmod (Go.IntKind.wrap .u64 y) 1000000000)) then
        bif decide (S.excess (Cf.mk (Cf.target c) (Cf.util c) (Cf.stable c) (Cf.panic c) (Cf.grain c) (Cf.threshold c) (Cf.up c) (Cf.down c) (Cf.min c) (Cf.max c) (Cf.initial c) (Cf.grace c) (Cf.delay c) (Cf.burst c) (Cf.limit c) (Cf.queue c) (Cf.timeout c) (Cf.ready c) (Cf.subset c) (Cf.sample c)) (Go.IntKind.wrap .i64 (Int.tmod (Go.IntKind.wrap .u64 b) 1000)) (Go.IntKind.wrap .i64 (Int.tmod (Go.IntKind.wrap .u64 y) 1000000000)) ≤ S.excess (Cf.mk (Cf.target c) (Cf.util c) (Cf.stable c) (Cf.panic c) (Cf.grain c) (Cf.threshold c) (Cf.up c) (Cf.down c) (Cf.min c) (Cf.max c) (Cf.initial c) (Cf.grace c) (Cf.delay c) (Cf.burst c) (Cf.limit c) (Cf.queue c) (Cf.timeout c) (Cf.ready c) (Cf.subset c) (Cf.sample c)) (Go.IntKind.wrap .i64 (Int.tmod (Go.IntKind.wrap .u64 a) 1000)) (Go.IntKind.wrap .i64 (Int.tmod (Go.IntKind.wrap .u64 x) 1000000000))) then
          bif !S.proxy (Cf.mk (Cf.target c) (Cf.util c) (Cf.stable c) (Cf.panic c) (Cf.grain c) (Cf.threshold c) (Cf.up c) (Cf.down c) (Cf.min c) (Cf.max c) (Cf.initial c) (Cf.grace c) (Cf.delay c) (Cf.burst c) (Cf.limit c) (Cf.queue c) (Cf.timeout c) (Cf.ready c) (Cf.subset c) (Cf.sample c)) (Go.IntKind.wrap .i64 (Int.tmod (Go.IntKind.wrap .u64 a) 1000)) (S.excess (Cf.mk (Cf.target c) (Cf.util c) (Cf.stable c) (Cf.panic c) (Cf.grain c) (Cf.threshold c) (Cf.up c) (Cf.down c) (Cf.min c) (Cf.max c) (Cf.initial c) (Cf.grace c) (Cf.delay c) (Cf.burst c) (Cf.limit c) (Cf.queue c) (Cf.timeout c) (Cf.ready c) (Cf.subset c) (Cf.sample c)) (Go.IntKind.wrap .i64 (Int.tmod (Go.IntKind.wrap .u64 a) 1000)) (Go.IntKind.wrap .i64 (Int.tmod (Go.IntKind.wrap .u64 x) 1000000000))) then
            (true)
          else
            (S.proxy (Cf.mk (Cf.target c) (Cf.util c) (Cf.stable c) (Cf.panic c) (Cf.grain c) (Cf.threshold c) (Cf.up c) (Cf.down c) (Cf.min c) (Cf.max c) (Cf.initial c) (Cf.grace c) (Cf.delay c) (Cf.burst c) (Cf.limit c) (Cf.queue c) (Cf.timeout c) (Cf.ready c) (Cf.subset c) (Cf.sample c)) (Go.IntKind.wrap .i64 (Int.tmod (Go.IntKind.wrap .u64 b) 1000)) (S.excess (Cf.mk (Cf.target c) (Cf.util c) (Cf.stable c) (Cf.panic c) (Cf.grain c) (Cf.threshold c) (Cf.up c) (Cf.down c) (Cf.min c) (Cf.max c) (Cf.initial c) (Cf.grace c) (Cf.delay c) (Cf.burst c) (Cf.limit c) (Cf.queue c) (Cf.timeout c) (Cf.ready c) (Cf.subset c) (Cf.sample c)) (Go.IntKind.wrap .i64 (Int.tmod (Go.IntKind.wrap .u64 b) 1000)) (Go.IntKind.wrap .i64 (Int.tmod (Go.IntKind.wrap .u64 y) 1000000000))))
        else
          (false)
      else
        bif decide (S.excess (Cf.mk (Cf.target c) (Cf.util c) (Cf.stable c) (Cf.panic c) (Cf.grain c) (Cf.threshold c) (Cf.up c) (Cf.down c) (Cf.min c) (Cf.max c) (Cf.initial c) (Cf.grace c) (Cf.delay c) (Cf.burst c) (Cf.limit c) (Cf.queue c) (Cf.timeout c) (Cf.ready c) (Cf.subset c) (Cf.sample c)) (Go.IntKind.wrap .i64 (Int.tmod (Go.IntKind.wrap .u64 b) 1000)) (Go.IntKind.wrap .i64 (Int.tmod (Go.IntKind.wrap .u64 x) 1000000000)) ≤ S.excess (Cf.mk (Cf.target c) (Cf.util c) (Cf.stable c) (Cf.panic c) (Cf.grain c) (Cf.threshold c) (Cf.up c) (Cf.down c) (Cf.min c) (Cf.max c) (Cf.initial c) (Cf.grace c) (Cf.delay c) (Cf.burst c) (Cf.limit c) (Cf.queue c) (Cf.timeout c) (Cf.ready c) (Cf.subset c) (Cf.sample c)) (Go.IntKind.wrap .i64 (Int.tmod (Go.IntKind.wrap .u64 a) 1000)) (Go.IntKind.wrap .i64 (Int.tmod (Go.IntKind.wrap .u64 y) 1000000000))) then
          bif !S.proxy (Cf.mk (Cf.target c) (Cf.util c) (Cf.stable c) (Cf.panic c) (Cf.grain c) (Cf.threshold c) (Cf.up c) (Cf.down c) (Cf.min c) (Cf.max c) (Cf.initial c) (Cf.grace c) (Cf.delay c) (Cf.burst c) (Cf.limit c) (Cf.queue c) (Cf.timeout c) (Cf.ready c) (Cf.subset c) (Cf.sample c)) (Go.IntKind.wrap .i64 (Int.tmod (Go.IntKind.wrap .u64 a) 1000)) (S.excess (Cf.mk (Cf.target c) (Cf.util c) (Cf.stable c) (Cf.panic c) (Cf.grain c) (Cf.threshold c) (Cf.up c) (Cf.down c) (Cf.min c) (Cf.max c) (Cf.initial c) (Cf.grace c) (Cf.delay c) (Cf.burst c) (Cf.limit c) (Cf.queue c) (Cf.timeout c) (Cf.ready c) (Cf.subset c) (Cf.sample c)) (Go.IntKind.wrap .i64 (Int.tmod (Go.IntKind.wrap .u64 a) 1000)) (Go.IntKind.wrap .i64 (Int.tmod (Go.IntKind.wrap .u64 y) 1000000000))) then
            (true)
          else
            (S.proxy (Cf.mk (Cf.target c) (Cf.util c) (Cf.stable c) (Cf.panic c) (Cf.grain c) (Cf.threshold c) (Cf.up c) (Cf.down c) (Cf.min c) (Cf.max c) (Cf.initial c) (Cf.grace c) (Cf.delay c) (Cf.burst c) (Cf.limit c) (Cf.queue c) (Cf.timeout c) (Cf.ready c) (Cf.subset c) (Cf.sample c)) (Go.IntKind.wrap .i64 (Int.tmod (Go.IntKind.wrap .u64 b) 1000)) (S.excess (Cf.mk (Cf.target c) (Cf.util c) (Cf.stable c) (Cf.panic c) (Cf.grain c) (Cf.threshold c) (Cf.up c) (Cf.down c) (Cf.min c) (Cf.max c) (Cf.initial c) (Cf.grace c) (Cf.delay c) (Cf.burst c) (Cf.limit c) (Cf.queue c) (Cf.timeout c) (Cf.ready c) (Cf.subset c) (Cf.sample c)) (Go.IntKind.wrap .i64 (Int.tmod (Go.IntKind.wrap .u64 b) 1000)) (Go.IntKind.wrap .i64 (Int.tmod (Go.IntKind.wrap .u64 x) 1000000000))))
        else
          (false)
    else
      bif decide (Go.IntKind.wrap .i64 (Int.tmod (Go.IntKind.wrap .u64 x) 1000000000) < Go.IntKind.wrap .i64 (Int.tmod (Go.IntKind.wrap .u64 y) 1000000000)) then
        bif decide (S.excess (Cf.mk (Cf.target c) (Cf.util c) (Cf.stable c) (Cf.panic c) (Cf.grain c) (Cf.threshold c) (Cf.up c) (Cf.down c) (Cf.min c) (Cf.max c) (Cf.initial c) (Cf.grace c) (Cf.delay c) (Cf.burst c) (Cf.limit c) (Cf.queue c) (Cf.timeout c) (Cf.ready c) (Cf.subset c) (Cf.sample c)) (Go.IntKind.wrap .i64 (Int.tmod (Go.IntKind.wrap .u64 a) 1000)) (Go.IntKind.wrap .i64 (Int.tmod (Go.IntKind.wrap .u64 y) 1000000000)) ≤ S.excess (Cf.mk (Cf.target c) (Cf.util c) (Cf.stable c) (Cf.panic c) (Cf.grain c) (Cf.threshold c) (Cf.up c) (Cf.down c) (Cf.min c) (Cf.max c) (Cf.initial c) (Cf.grace c) (Cf.delay c) (Cf.burst c) (Cf.limit c) (Cf.queue c) (Cf.timeout c) (Cf.ready c) (Cf.subset c) (Cf.sample c)) (Go.IntKind.wrap .i64 (Int.tmod (Go.IntKind.wrap .u64 b) 1000)) (Go.IntKind.wrap .i64 (Int.tmod (Go.IntKind.wrap .u64 x) 1000000000))) then
          bif !S.proxy (Cf.mk (Cf.target c) (Cf.util c) (Cf.stable c) (Cf.panic c) (Cf.grain c) (Cf.threshold c) (Cf.up c) (Cf.down c) (Cf.min c) (Cf.max c) (Cf.initial c) (Cf.grace c) (Cf.delay c) (Cf.burst c) (Cf.limit c) (Cf.queue c) (Cf.timeout c) (Cf.ready c) (Cf.subset c) (Cf.sample c)) (Go.IntKind.wrap .i64 (Int.tmod (Go.IntKind.wrap .u64 b) 1000)) (S.excess (Cf.mk (Cf.target c) (Cf.util c) (Cf.stable c) (Cf.panic c) (Cf.grain c) (Cf.threshold c) (Cf.up c) (Cf.down c) (Cf.min c) (Cf.max c) (Cf.initial c) (Cf.grace c) (Cf.delay c) (Cf.burst c) (Cf.limit c) (Cf.queue c) (Cf.timeout c) (Cf.ready c) (Cf.subset c) (Cf.sample c)) (Go.IntKind.wrap .i64 (Int.tmod (Go.IntKind.wrap .u64 b) 1000)) (Go.IntKind.wrap .i64 (Int.tmod (Go.IntKind.wrap .u64 x) 1000000000))) then
            (true)
          else
            (S.proxy (Cf.mk (Cf.target c) (Cf.util c) (Cf.stable c) (Cf.panic c) (Cf.grain c) (Cf.threshold c) (Cf.up c) (Cf.down c) (Cf.min c) (Cf.max c) (Cf.initial c) (Cf.grace c) (Cf.delay c) (Cf.burst c) (Cf.limit c) (Cf.queue c) (Cf.timeout c) (Cf.ready c) (Cf.subset c) (Cf.sample c)) (Go.IntKind.wrap .i64 (Int.tmod (Go.IntKind.wrap .u64 a) 1000)) (S.excess (Cf.mk (Cf.target c) (Cf.util c) (Cf.stable c) (Cf.panic c) (Cf.grain c) (Cf.threshold c) (Cf.up c) (Cf.down c) (Cf.min c) (Cf.max c) (Cf.initial c) (Cf.grace c) (Cf.delay c) (Cf.burst c) (Cf.limit c) (Cf.queue c) (Cf.timeout c) (Cf.ready c) (Cf.subset c) (Cf.sample c)) (Go.IntKind.wrap .i64 (Int.tmod (Go.IntKind.wrap .u64 a) 1000)) (Go.IntKind.wrap .i64 (Int.tmod (Go.IntKind.wrap .u64 y) 1000000000))))
        else
          (false)
      else
        bif decide (S.excess (Cf.mk (Cf.target c) (Cf.util c) (Cf.stable c) (Cf.panic c) (Cf.grain c) (Cf.threshold c) (Cf.up c) (Cf.down c) (Cf.min c) (Cf.max c) (Cf.initial c) (Cf.grace c) (Cf.delay c) (Cf.burst c) (Cf.limit c) (Cf.queue c) (Cf.timeout c) (Cf.ready c) (Cf.subset c) (Cf.sample c)) (Go.IntKind.wrap .i64 (Int.tmod (Go.IntKind.wrap .u64 a) 1000)) (Go.IntKind.wrap .i64 (Int.tmod (Go.IntKind.wrap .u64 x) 1000000000)) ≤ S.excess (Cf.mk (Cf.target c) (Cf.util c) (Cf.stable c) (Cf.panic c) (Cf.grain c) (Cf.threshold c) (Cf.up c) (Cf.down c) (Cf.min c) (Cf.max c) (Cf.initial c) (Cf.grace c) (Cf.delay c) (Cf.burst c) (Cf.limit c) (Cf.queue c) (Cf.timeout c) (Cf.ready c) (Cf.subset c) (Cf.sample c)) (Go.IntKind.wrap .i64 (Int.tmod (Go.IntKind.wrap .u64 b) 1000)) (Go.IntKind.wrap .i64 (Int.tmod (Go.IntKind.wrap .u64 y) 1000000000))) then
          bif !S.proxy (Cf.mk (Cf.target c) (Cf.util c) (Cf.stable c) (Cf.panic c) (Cf.grain c) (Cf.threshold c) (Cf.up c) (Cf.down c) (Cf.min c) (Cf.max c) (Cf.initial c) (Cf.grace c) (Cf.delay c) (Cf.burst c) (Cf.limit c) (Cf.queue c) (Cf.timeout c) (Cf.ready c) (Cf.subset c) (Cf.sample c)) (Go.IntKind.wrap .i64 (Int.tmod (Go.IntKind.wrap .u64 b) 1000)) (S.excess (Cf.mk (Cf.target c) (Cf.util c) (Cf.stable c) (Cf.panic c) (Cf.grain c) (Cf.threshold c) (Cf.up c) (Cf.down c) (Cf.min c) (Cf.max c) (Cf.initial c) (Cf.grace c) (Cf.delay c) (Cf.burst c) (Cf.limit c) (Cf.queue c) (Cf.timeout c) (Cf.ready c) (Cf.subset c) (Cf.sample c)) (Go.IntKind.wrap .i64 (Int.tmod (Go.IntKind.wrap .u64 b) 1000)) (Go.IntKind.wrap .i64 (Int.tmod (Go.IntKind.wrap .u64 y) 1000000000))) then
            (true)
          else
            (S.proxy (Cf.mk (Cf.target c) (Cf.util c) (Cf.stable c) (Cf.panic c) (Cf.grain c) (Cf.threshold c) (Cf.up c) (Cf.down c) (Cf.min c) (Cf.max c) (Cf.initial c) (Cf.grace c) (Cf.delay c) (Cf.burst c) (Cf.limit c) (Cf.queue c) (Cf.timeout c) (Cf.ready c) (Cf.subset c) (Cf.sample c)) (Go.IntKind.wrap .i64 (Int.tmod (Go.IntKind.wrap .u64 a) 1000)) (S.excess (Cf.mk (Cf.target c) (Cf.util c) (Cf.stable c) (Cf.panic c) (Cf.grain c) (Cf.threshold c) (Cf.up c) (Cf.down c) (Cf.min c) (Cf.max c) (Cf.initial c) (Cf.grace c) (Cf.delay c) (Cf.burst c) (Cf.limit c) (Cf.queue c) (Cf.timeout c) (Cf.ready c) (Cf.subset c) (Cf.sample c)) (Go.IntKind.wrap .i64 (Int.tmod (Go.IntKind.wrap .u64 a) 1000)) (Go.IntKind.wrap .i64 (Int.tmod (Go.IntKind.wrap .u64 x) 1000000000))))
        else
          (false)
theorem S.BurstMore_v {R : Type} (c : Cf) (a b x y : Int) (k : AVal → List Blk → Option R) : fnEval tis F9 0 G8 Try.f9 [.agg (cfA c), .int .i64 a, .int .i64 b, .int .i64 x, .int .i64 y] [] k = k (.bool (S.BurstMore c a b x y)) [] :=
  (S.BurstMore_k c a b x y k).trans (bif_lift (f := (fun v : Bool => k (.bool v) [])) rfl (bif_lift (f := (fun v : Bool => k (.bool v) [])) (bif_lift (f := (fun v : Bool => k (.bool v) [])) (bif_lift (f := (fun v : Bool => k (.bool v) [])) (bif_lift (f := (fun v : Bool => k (.bool v) [])) rfl rfl) rfl) (bif_lift (f := (fun v : Bool => k (.bool v) [])) (bif_lift (f := (fun v : Bool => k (.bool v) [])) rfl rfl) rfl)) (bif_lift (f := (fun v : Bool => k (.bool v) [])) (bif_lift (f := (fun v : Bool => k (.bool v) [])) (bif_lift (f := (fun v : Bool => k (.bool v) [])) rfl rfl) rfl) (bif_lift (f := (fun v : Bool => k (.bool v) [])) (bif_lift (f := (fun v : Bool => k (.bool v) [])) rfl rfl) rfl))))
def H9 : Hnd := fun R args σ k => match args, σ with
  | [.agg [.int .i64 target_, .int .i64 util_, .int .i64 stable_, .int .i64 panic_, .int .i64 grain_, .int .i64 threshold_, .int .i64 up_, .int .i64 down_, .int .i64 min_, .int .i64 max_, .int .i64 initial_, .int .i64 grace_, .int .i64 delay_, .int .i64 burst_, .int .i64 limit_, .int .i64 queue_, .int .i64 timeout_, .int .i64 ready_, .int .i64 subset_, .int .i64 sample_], .int .i64 a, .int .i64 b, .int .i64 x, .int .i64 y], [] => k (.bool (S.BurstMore ⟨target_, util_, stable_, panic_, grain_, threshold_, up_, down_, min_, max_, initial_, grace_, delay_, burst_, limit_, queue_, timeout_, ready_, subset_, sample_⟩ a b x y)) []
  | _, _ => none
theorem H9_ok : HndOk Try.prog 9 H9 := hnd_ok tis tisOk mixOk G8_ok F9 Try.func9 rfl (by
  intro R args σ k r h
  unfold H9 at h
  split at h
  · rename_i target_ util_ stable_ panic_ grain_ threshold_ up_ down_ min_ max_ initial_ grace_ delay_ burst_ limit_ queue_ timeout_ ready_ subset_ sample_ a b x y; exact ⟨0, (S.BurstMore_v ⟨target_, util_, stable_, panic_, grain_, threshold_, up_, down_, min_, max_, initial_, grace_, delay_, burst_, limit_, queue_, timeout_, ready_, subset_, sample_⟩ a b x y _).trans h⟩
  · cases h)
def G9 : Env := Env.add 9 H9 G8
theorem G9_ok : EnvOk Try.prog G9 := envAdd_ok H9_ok G8_ok
end Go.Proofs.Ytdcfjndlmmldpaa.AB
