/- The functions of layer 22, as plain functions. -/
import Derived.Test.YtdcfjndlmmldpaaSrconf
namespace Go.Proofs.Ytdcfjndlmmldpaa.AB
set_option linter.unusedVariables false

/-! spinnakerref1.Default -/
def F21 : FCfg := ⟨keepAt [(0, [0]), (1, [0])], loopAt [], []⟩
theorem S.dflt_k {R : Type}  (k : AVal → List Blk → Option R) : fnEval tis F21 0 G23 Try.f21 [] [] k =
  (k (.agg [.int .i64 10000, .int .i64 700, .int .i64 60, .int .i64 6, .int .i64 1, .int .i64 2000, .int .i64 10000, .int .i64 2000, .int .i64 0, .int .i64 0, .int .i64 1, .int .i64 30, .int .i64 0, .int .i64 20000, .int .i64 10, .int .i64 100, .int .i64 60, .int .i64 3, .int .i64 0, .int .i64 0]) ([])) := by kernel_rfl
def S.dflt  : Int × Int × Int × Int × Int × Int × Int × Int × Int × Int × Int × Int × Int × Int × Int × Int × Int × Int × Int × Int :=
  (10000, 700, 60, 6, 1, 2000, 10000, 2000, 0, 0, 1, 30, 0, 20000, 10, 100, 60, 3, 0, 0)
theorem S.dflt_v {R : Type}  (k : AVal → List Blk → Option R) : fnEval tis F21 0 G23 Try.f21 [] [] k = k (.agg [(.int .i64 (S.dflt).1), (.int .i64 (S.dflt).2.1), (.int .i64 (S.dflt).2.2.1), (.int .i64 (S.dflt).2.2.2.1), (.int .i64 (S.dflt).2.2.2.2.1), (.int .i64 (S.dflt).2.2.2.2.2.1), (.int .i64 (S.dflt).2.2.2.2.2.2.1), (.int .i64 (S.dflt).2.2.2.2.2.2.2.1), (.int .i64 (S.dflt).2.2.2.2.2.2.2.2.1), (.int .i64 (S.dflt).2.2.2.2.2.2.2.2.2.1), (.int .i64 (S.dflt).2.2.2.2.2.2.2.2.2.2.1), (.int .i64 (S.dflt).2.2.2.2.2.2.2.2.2.2.2.1), (.int .i64 (S.dflt).2.2.2.2.2.2.2.2.2.2.2.2.1), (.int .i64 (S.dflt).2.2.2.2.2.2.2.2.2.2.2.2.2.1), (.int .i64 (S.dflt).2.2.2.2.2.2.2.2.2.2.2.2.2.2.1), (.int .i64 (S.dflt).2.2.2.2.2.2.2.2.2.2.2.2.2.2.2.1), (.int .i64 (S.dflt).2.2.2.2.2.2.2.2.2.2.2.2.2.2.2.2.1), (.int .i64 (S.dflt).2.2.2.2.2.2.2.2.2.2.2.2.2.2.2.2.2.1), (.int .i64 (S.dflt).2.2.2.2.2.2.2.2.2.2.2.2.2.2.2.2.2.2.1), (.int .i64 (S.dflt).2.2.2.2.2.2.2.2.2.2.2.2.2.2.2.2.2.2.2)]) [] :=
  (S.dflt_k k).trans rfl
def H21 : Hnd := fun R args σ k => match args, σ with
  | [], [] => k (.agg [(.int .i64 (S.dflt).1), (.int .i64 (S.dflt).2.1), (.int .i64 (S.dflt).2.2.1), (.int .i64 (S.dflt).2.2.2.1), (.int .i64 (S.dflt).2.2.2.2.1), (.int .i64 (S.dflt).2.2.2.2.2.1), (.int .i64 (S.dflt).2.2.2.2.2.2.1), (.int .i64 (S.dflt).2.2.2.2.2.2.2.1), (.int .i64 (S.dflt).2.2.2.2.2.2.2.2.1), (.int .i64 (S.dflt).2.2.2.2.2.2.2.2.2.1), (.int .i64 (S.dflt).2.2.2.2.2.2.2.2.2.2.1), (.int .i64 (S.dflt).2.2.2.2.2.2.2.2.2.2.2.1), (.int .i64 (S.dflt).2.2.2.2.2.2.2.2.2.2.2.2.1), (.int .i64 (S.dflt).2.2.2.2.2.2.2.2.2.2.2.2.2.1), (.int .i64 (S.dflt).2.2.2.2.2.2.2.2.2.2.2.2.2.2.1), (.int .i64 (S.dflt).2.2.2.2.2.2.2.2.2.2.2.2.2.2.2.1), (.int .i64 (S.dflt).2.2.2.2.2.2.2.2.2.2.2.2.2.2.2.2.1), (.int .i64 (S.dflt).2.2.2.2.2.2.2.2.2.2.2.2.2.2.2.2.2.1), (.int .i64 (S.dflt).2.2.2.2.2.2.2.2.2.2.2.2.2.2.2.2.2.2.1), (.int .i64 (S.dflt).2.2.2.2.2.2.2.2.2.2.2.2.2.2.2.2.2.2.2)]) []
  | _, _ => none
theorem H21_ok : HndOk Try.prog 21 H21 := hnd_ok tis tisOk mixOk G23_ok F21 Try.func21 rfl (by
  intro R args σ k r h
  unfold H21 at h
  split at h
  · exact ⟨0, (S.dflt_v _).trans h⟩
  · cases h)
def G21 : Env := Env.add 21 H21 G23
theorem G21_ok : EnvOk Try.prog G21 := envAdd_ok H21_ok G23_ok

/-! zero.since -/
def F36 : FCfg := ⟨keepAt [(0, [0]), (1, [3, 4]), (2, [3, 11]), (3, [2]), (4, [2])], loopAt [], []⟩
theorem S.since_k {R : Type} (t : Int) (k : AVal → List Blk → Option R) : fnEval tis F36 0 G21 Try.f36 [.iface 25 (.agg [.int .i64 t])] [] k =
  (k (.int .i64 t) ([])) := by kernel_rfl
def S.since (t : Int) : Int :=
  (t)
theorem S.since_v {R : Type} (t : Int) (k : AVal → List Blk → Option R) : fnEval tis F36 0 G21 Try.f36 [.iface 25 (.agg [.int .i64 t])] [] k = k (.int .i64 (S.since t)) [] :=
  (S.since_k t k).trans rfl
def H36 : Hnd := fun R args σ k => match args, σ with
  | [.iface 25 (.agg [.int .i64 t])], [] => k (.int .i64 (S.since t)) []
  | _, _ => none
theorem H36_ok : HndOk Try.prog 36 H36 := hnd_ok tis tisOk mixOk G21_ok F36 Try.func36 rfl (by
  intro R args σ k r h
  unfold H36 at h
  split at h
  · rename_i t; exact ⟨0, (S.since_v t _).trans h⟩
  · cases h)
def G36 : Env := Env.add 36 H36 G21
theorem G36_ok : EnvOk Try.prog G36 := envAdd_ok H36_ok G21_ok

/-! zero.New -/
def F22 : FCfg := ⟨keepAt [(0, [0]), (1, [0])], loopAt [], []⟩
theorem S.znew_k {R : Type}  (k : AVal → List Blk → Option R) : fnEval tis F22 0 G36 Try.f22 [] [] k =
  (k (.agg [.int .i64 (-1)]) ([])) := by kernel_rfl
def S.znew  : Int :=
  (-1)
theorem S.znew_v {R : Type}  (k : AVal → List Blk → Option R) : fnEval tis F22 0 G36 Try.f22 [] [] k = k (.agg [(.int .i64 (S.znew))]) [] :=
  (S.znew_k k).trans rfl
def H22 : Hnd := fun R args σ k => match args, σ with
  | [], [] => k (.agg [(.int .i64 (S.znew))]) []
  | _, _ => none
theorem H22_ok : HndOk Try.prog 22 H22 := hnd_ok tis tisOk mixOk G36_ok F22 Try.func22 rfl (by
  intro R args σ k r h
  unfold H22 at h
  split at h
  · exact ⟨0, (S.znew_v _).trans h⟩
  · cases h)
def G22 : Env := Env.add 22 H22 G36
theorem G22_ok : EnvOk Try.prog G22 := envAdd_ok H22_ok G36_ok

/-! zero.Next -/
def F15 : FCfg := ⟨keepAt [(0, [1, 2, 3, 6]), (1, [1, 3, 6, 7]), (2, [6]), (3, [1, 3, 6, 11]), (4, [6]), (5, [6])], loopAt [], []⟩
theorem S.znext_k {R : Type} (t now : Int) (p : Bool) (k : AVal → List Blk → Option R) : fnEval tis F15 0 G22 Try.f15 [.agg [.int .i64 t], .int .i64 now, .bool p] [] k =
  (bif !p then
    k (.agg [.int .i64 (-1)]) ([])
  else
    bif decide (0 ≤ S.since t) then
      k (.agg [.int .i64 t]) ([])
    else
      k (.agg [.int .i64 now]) ([])) := by kernel_rfl
def S.znext (t now : Int) (p : Bool) : Int :=
  bif !p then
    (-1)
  else
    bif decide (0 ≤ S.since t) then
      (t)
    else
      (now)
theorem S.znext_v {R : Type} (t now : Int) (p : Bool) (k : AVal → List Blk → Option R) : fnEval tis F15 0 G22 Try.f15 [.agg [.int .i64 t], .int .i64 now, .bool p] [] k = k (.agg [(.int .i64 (S.znext t now p))]) [] :=
  (S.znext_k t now p k).trans (bif_lift (f := (fun v : Int => k (.agg [(.int .i64 v)]) [])) rfl (bif_lift (f := (fun v : Int => k (.agg [(.int .i64 v)]) [])) rfl rfl))
def H15 : Hnd := fun R args σ k => match args, σ with
  | [.agg [.int .i64 t], .int .i64 now, .bool p], [] => k (.agg [(.int .i64 (S.znext t now p))]) []
  | _, _ => none
theorem H15_ok : HndOk Try.prog 15 H15 := hnd_ok tis tisOk mixOk G22_ok F15 Try.func15 rfl (by
  intro R args σ k r h
  unfold H15 at h
  split at h
  · rename_i t now p; exact ⟨0, (S.znext_v t now p _).trans h⟩
  · cases h)
def G15 : Env := Env.add 15 H15 G22
theorem G15_ok : EnvOk Try.prog G15 := envAdd_ok H15_ok G22_ok

/-! zero.May -/
def F17 : FCfg := ⟨keepAt [(0, [2, 3, 4, 5, 6, 7]), (1, [2, 3, 4, 5, 6, 13]), (2, [12])], loopAt [], []⟩
theorem S.zmay_k {R : Type} (c : Cf) (t now mean w b : Int) (k : AVal → List Blk → Option R) : fnEval tis F17 0 G15 Try.f17 [.agg (cfA c), .agg [.int .i64 t], .int .i64 now, .int .i64 mean, .int .i64 w, .int .i64 b] [] k =
  (bif S.may (Cf.mk (Cf.target c) (Cf.util c) (Cf.stable c) (Cf.panic c) (Cf.grain c) (Cf.threshold c) (Cf.up c) (Cf.down c) (Cf.min c) (Cf.max c) (Cf.initial c) (Cf.grace c) (Cf.delay c) (Cf.burst c) (Cf.limit c) (Cf.queue c) (Cf.timeout c) (Cf.ready c) (Cf.subset c) (Cf.sample c)) then
    bif decide (Cf.min c = 0) then
      bif decide (mean = 0) then
        bif decide (w = 0) then
          bif decide (b = 0) then
            bif decide (0 ≤ S.since t) then
              bif decide (S.since t ≤ now) then
                k (.bool (decide (Cf.grace c ≤ Go.IntKind.wrap .i64 (now - S.since t)))) ([])
              else
                k (.bool false) ([])
            else
              k (.bool false) ([])
          else
            k (.bool false) ([])
        else
          k (.bool false) ([])
      else
        k (.bool false) ([])
    else
      k (.bool false) ([])
  else
    k (.bool false) ([])) := by kernel_rfl
def S.zmay (c : Cf) (t now mean w b : Int) : Bool :=
  bif S.may (Cf.mk (Cf.target c) (Cf.util c) (Cf.stable c) (Cf.panic c) (Cf.grain c) (Cf.threshold c) (Cf.up c) (Cf.down c) (Cf.min c) (Cf.max c) (Cf.initial c) (Cf.grace c) (Cf.delay c) (Cf.burst c) (Cf.limit c) (Cf.queue c) (Cf.timeout c) (Cf.ready c) (Cf.subset c) (Cf.sample c)) then
    bif decide (Cf.min c = 0) then
      bif decide (mean = 0) then
        bif decide (w = 0) then
          bif decide (b = 0) then
            bif decide (0 ≤ S.since t) then
              bif decide (S.since t ≤ now) then
                (decide (Cf.grace c ≤ Go.IntKind.wrap .i64 (now - S.since t)))
              else
                (false)
            else
              (false)
          else
            (false)
        else
          (false)
      else
        (false)
    else
      (false)
  else
    (false)
theorem S.zmay_v {R : Type} (c : Cf) (t now mean w b : Int) (k : AVal → List Blk → Option R) : fnEval tis F17 0 G15 Try.f17 [.agg (cfA c), .agg [.int .i64 t], .int .i64 now, .int .i64 mean, .int .i64 w, .int .i64 b] [] k = k (.bool (S.zmay c t now mean w b)) [] :=
  (S.zmay_k c t now mean w b k).trans (bif_lift (f := (fun v : Bool => k (.bool v) [])) (bif_lift (f := (fun v : Bool => k (.bool v) [])) (bif_lift (f := (fun v : Bool => k (.bool v) [])) (bif_lift (f := (fun v : Bool => k (.bool v) [])) (bif_lift (f := (fun v : Bool => k (.bool v) [])) (bif_lift (f := (fun v : Bool => k (.bool v) [])) (bif_lift (f := (fun v : Bool => k (.bool v) [])) rfl rfl) rfl) rfl) rfl) rfl) rfl) rfl)
def H17 : Hnd := fun R args σ k => match args, σ with
  | [.agg [.int .i64 target_, .int .i64 util_, .int .i64 stable_, .int .i64 panic_, .int .i64 grain_, .int .i64 threshold_, .int .i64 up_, .int .i64 down_, .int .i64 min_, .int .i64 max_, .int .i64 initial_, .int .i64 grace_, .int .i64 delay_, .int .i64 burst_, .int .i64 limit_, .int .i64 queue_, .int .i64 timeout_, .int .i64 ready_, .int .i64 subset_, .int .i64 sample_], .agg [.int .i64 t], .int .i64 now, .int .i64 mean, .int .i64 w, .int .i64 b], [] => k (.bool (S.zmay ⟨target_, util_, stable_, panic_, grain_, threshold_, up_, down_, min_, max_, initial_, grace_, delay_, burst_, limit_, queue_, timeout_, ready_, subset_, sample_⟩ t now mean w b)) []
  | _, _ => none
theorem H17_ok : HndOk Try.prog 17 H17 := hnd_ok tis tisOk mixOk G15_ok F17 Try.func17 rfl (by
  intro R args σ k r h
  unfold H17 at h
  split at h
  · rename_i target_ util_ stable_ panic_ grain_ threshold_ up_ down_ min_ max_ initial_ grace_ delay_ burst_ limit_ queue_ timeout_ ready_ subset_ sample_ t now mean w b; exact ⟨0, (S.zmay_v ⟨target_, util_, stable_, panic_, grain_, threshold_, up_, down_, min_, max_, initial_, grace_, delay_, burst_, limit_, queue_, timeout_, ready_, subset_, sample_⟩ t now mean w b _).trans h⟩
  · cases h)
def G17 : Env := Env.add 17 H17 G15
theorem G17_ok : EnvOk Try.prog G17 := envAdd_ok H17_ok G15_ok

/-! zero.Want -/
def F19 : FCfg := ⟨keepAt [(0, [2, 3, 4, 5, 6, 7, 8, 9]), (1, [2, 3, 4, 5, 6, 7, 8, 9, 17]), (2, [16]), (3, [2, 5, 6, 7, 8, 9, 21]), (4, [21]), (5, [16]), (6, [16])], loopAt [], []⟩
theorem S.zwant_k {R : Type} (c : Cf) (t now want have_ mean w b : Int) (k : AVal → List Blk → Option R) : fnEval tis F19 0 G17 Try.f19 [.agg (cfA c), .agg [.int .i64 t], .int .i64 now, .int .i64 want, .int .i64 have_, .int .i64 mean, .int .i64 w, .int .i64 b] [] k =
  (bif decide (0 < want) then
    k (.int .i64 want) ([])
  else
    bif decide (have_ = 0) then
      bif decide (w = 0) then
        bif decide (w = 0) then
          k (.int .i64 0) ([])
        else
          k (.int .i64 1) ([])
      else
        bif S.zmay (Cf.mk (Cf.target c) (Cf.util c) (Cf.stable c) (Cf.panic c) (Cf.grain c) (Cf.threshold c) (Cf.up c) (Cf.down c) (Cf.min c) (Cf.max c) (Cf.initial c) (Cf.grace c) (Cf.delay c) (Cf.burst c) (Cf.limit c) (Cf.queue c) (Cf.timeout c) (Cf.ready c) (Cf.subset c) (Cf.sample c)) t now mean w b then
          k (.int .i64 0) ([])
        else
          k (.int .i64 1) ([])
    else
      bif S.zmay (Cf.mk (Cf.target c) (Cf.util c) (Cf.stable c) (Cf.panic c) (Cf.grain c) (Cf.threshold c) (Cf.up c) (Cf.down c) (Cf.min c) (Cf.max c) (Cf.initial c) (Cf.grace c) (Cf.delay c) (Cf.burst c) (Cf.limit c) (Cf.queue c) (Cf.timeout c) (Cf.ready c) (Cf.subset c) (Cf.sample c)) t now mean w b then
        k (.int .i64 0) ([])
      else
        k (.int .i64 1) ([])) := by kernel_rfl
def S.zwant (c : Cf) (t now want have_ mean w b : Int) : Int :=
  bif decide (0 < want) then
    (want)
  else
    bif decide (have_ = 0) then
      bif decide (w = 0) then
        bif decide (w = 0) then
          (0)
        else
          (1)
      else
        bif S.zmay (Cf.mk (Cf.target c) (Cf.util c) (Cf.stable c) (Cf.panic c) (Cf.grain c) (Cf.threshold c) (Cf.up c) (Cf.down c) (Cf.min c) (Cf.max c) (Cf.initial c) (Cf.grace c) (Cf.delay c) (Cf.burst c) (Cf.limit c) (Cf.queue c) (Cf.timeout c) (Cf.ready c) (Cf.subset c) (Cf.sample c)) t now mean w b then
          (0)
        else
          (1)
    else
      bif S.zmay (Cf.mk (Cf.target c) (Cf.util c) (Cf.stable c) (Cf.panic c) (Cf.grain c) (Cf.threshold c) (Cf.up c) (Cf.down c) (Cf.min c) (Cf.max c) (Cf.initial c) (Cf.grace c) (Cf.delay c) (Cf.burst c) (Cf.limit c) (Cf.queue c) (Cf.timeout c) (Cf.ready c) (Cf.subset c) (Cf.sample c)) t now mean w b then
        (0)
      else
        (1)
theorem S.zwant_v {R : Type} (c : Cf) (t now want have_ mean w b : Int) (k : AVal → List Blk → Option R) : fnEval tis F19 0 G17 Try.f19 [.agg (cfA c), .agg [.int .i64 t], .int .i64 now, .int .i64 want, .int .i64 have_, .int .i64 mean, .int .i64 w, .int .i64 b] [] k = k (.int .i64 (S.zwant c t now want have_ mean w b)) [] :=
  (S.zwant_k c t now want have_ mean w b k).trans (bif_lift (f := (fun v : Int => k (.int .i64 v) [])) rfl (bif_lift (f := (fun v : Int => k (.int .i64 v) [])) (bif_lift (f := (fun v : Int => k (.int .i64 v) [])) (bif_lift (f := (fun v : Int => k (.int .i64 v) [])) rfl rfl) (bif_lift (f := (fun v : Int => k (.int .i64 v) [])) rfl rfl)) (bif_lift (f := (fun v : Int => k (.int .i64 v) [])) rfl rfl)))
def H19 : Hnd := fun R args σ k => match args, σ with
  | [.agg [.int .i64 target_, .int .i64 util_, .int .i64 stable_, .int .i64 panic_, .int .i64 grain_, .int .i64 threshold_, .int .i64 up_, .int .i64 down_, .int .i64 min_, .int .i64 max_, .int .i64 initial_, .int .i64 grace_, .int .i64 delay_, .int .i64 burst_, .int .i64 limit_, .int .i64 queue_, .int .i64 timeout_, .int .i64 ready_, .int .i64 subset_, .int .i64 sample_], .agg [.int .i64 t], .int .i64 now, .int .i64 want, .int .i64 have_, .int .i64 mean, .int .i64 w, .int .i64 b], [] => k (.int .i64 (S.zwant ⟨target_, util_, stable_, panic_, grain_, threshold_, up_, down_, min_, max_, initial_, grace_, delay_, burst_, limit_, queue_, timeout_, ready_, subset_, sample_⟩ t now want have_ mean w b)) []
  | _, _ => none
theorem H19_ok : HndOk Try.prog 19 H19 := hnd_ok tis tisOk mixOk G17_ok F19 Try.func19 rfl (by
  intro R args σ k r h
  unfold H19 at h
  split at h
  · rename_i target_ util_ stable_ panic_ grain_ threshold_ up_ down_ min_ max_ initial_ grace_ delay_ burst_ limit_ queue_ timeout_ ready_ subset_ sample_ t now want have_ mean w b; exact ⟨0, (S.zwant_v ⟨target_, util_, stable_, panic_, grain_, threshold_, up_, down_, min_, max_, initial_, grace_, delay_, burst_, limit_, queue_, timeout_, ready_, subset_, sample_⟩ t now want have_ mean w b _).trans h⟩
  · cases h)
def G19 : Env := Env.add 19 H19 G17
theorem G19_ok : EnvOk Try.prog G19 := envAdd_ok H19_ok G17_ok

/-! spinnakerref18.Zero -/
def F16 : FCfg := ⟨keepAt [(0, [0, 1, 2]), (1, [0, 1, 7]), (2, [6]), (3, [0, 1, 10]), (4, [6]), (5, [6])], loopAt [], []⟩
theorem S.rzero_k {R : Type} (t now : Int) (p : Bool) (k : AVal → List Blk → Option R) : fnEval tis F16 0 G19 Try.f16 [.int .i64 t, .int .i64 now, .bool p] [] k =
  (bif !p then
    k (.int .i64 (-1)) ([])
  else
    bif decide (0 ≤ t) then
      k (.int .i64 t) ([])
    else
      k (.int .i64 now) ([])) := by kernel_rfl
def S.rzero (t now : Int) (p : Bool) : Int :=
  bif !p then
    (-1)
  else
    bif decide (0 ≤ t) then
      (t)
    else
      (now)
theorem S.rzero_v {R : Type} (t now : Int) (p : Bool) (k : AVal → List Blk → Option R) : fnEval tis F16 0 G19 Try.f16 [.int .i64 t, .int .i64 now, .bool p] [] k = k (.int .i64 (S.rzero t now p)) [] :=
  (S.rzero_k t now p k).trans (bif_lift (f := (fun v : Int => k (.int .i64 v) [])) rfl (bif_lift (f := (fun v : Int => k (.int .i64 v) [])) rfl rfl))
def H16 : Hnd := fun R args σ k => match args, σ with
  | [.int .i64 t, .int .i64 now, .bool p], [] => k (.int .i64 (S.rzero t now p)) []
  | _, _ => none
theorem H16_ok : HndOk Try.prog 16 H16 := hnd_ok tis tisOk mixOk G19_ok F16 Try.func16 rfl (by
  intro R args σ k r h
  unfold H16 at h
  split at h
  · rename_i t now p; exact ⟨0, (S.rzero_v t now p _).trans h⟩
  · cases h)
def G16 : Env := Env.add 16 H16 G19
theorem G16_ok : EnvOk Try.prog G16 := envAdd_ok H16_ok G19_ok

/-! spinnakerref18.MayZero -/
def F18 : FCfg := ⟨keepAt [(0, [1, 2, 3, 4, 5, 6]), (1, [12])], loopAt [], []⟩
theorem S.rzmay_k {R : Type} (c : Cf) (t now mean w b : Int) (k : AVal → List Blk → Option R) : fnEval tis F18 0 G16 Try.f18 [.agg (cfA c), .int .i64 t, .int .i64 now, .int .i64 mean, .int .i64 w, .int .i64 b] [] k =
  (bif S.rmay (Cf.mk (Cf.target c) (Cf.util c) (Cf.stable c) (Cf.panic c) (Cf.grain c) (Cf.threshold c) (Cf.up c) (Cf.down c) (Cf.min c) (Cf.max c) (Cf.initial c) (Cf.grace c) (Cf.delay c) (Cf.burst c) (Cf.limit c) (Cf.queue c) (Cf.timeout c) (Cf.ready c) (Cf.subset c) (Cf.sample c)) then
    bif decide (Cf.min c = 0) then
      bif decide (mean = 0) then
        bif decide (w = 0) then
          bif decide (b = 0) then
            bif decide (0 ≤ t) then
              bif decide (t ≤ now) then
                k (.bool (decide (Go.IntKind.wrap .u64 (Cf.grace c) ≤ Go.IntKind.wrap .u64 (Go.IntKind.wrap .u64 now - Go.IntKind.wrap .u64 t)))) ([])
              else
                k (.bool false) ([])
            else
              k (.bool false) ([])
          else
            k (.bool false) ([])
        else
          k (.bool false) ([])
      else
        k (.bool false) ([])
    else
      k (.bool false) ([])
  else
    k (.bool false) ([])) := by kernel_rfl
def S.rzmay (c : Cf) (t now mean w b : Int) : Bool :=
  bif S.rmay (Cf.mk (Cf.target c) (Cf.util c) (Cf.stable c) (Cf.panic c) (Cf.grain c) (Cf.threshold c) (Cf.up c) (Cf.down c) (Cf.min c) (Cf.max c) (Cf.initial c) (Cf.grace c) (Cf.delay c) (Cf.burst c) (Cf.limit c) (Cf.queue c) (Cf.timeout c) (Cf.ready c) (Cf.subset c) (Cf.sample c)) then
    bif decide (Cf.min c = 0) then
      bif decide (mean = 0) then
        bif decide (w = 0) then
          bif decide (b = 0) then
            bif decide (0 ≤ t) then
              bif decide (t ≤ now) then
                (decide (Go.IntKind.wrap .u64 (Cf.grace c) ≤ Go.IntKind.wrap .u64 (Go.IntKind.wrap .u64 now - Go.IntKind.wrap .u64 t)))
              else
                (false)
            else
              (false)
          else
            (false)
        else
          (false)
      else
        (false)
    else
      (false)
  else
    (false)
theorem S.rzmay_v {R : Type} (c : Cf) (t now mean w b : Int) (k : AVal → List Blk → Option R) : fnEval tis F18 0 G16 Try.f18 [.agg (cfA c), .int .i64 t, .int .i64 now, .int .i64 mean, .int .i64 w, .int .i64 b] [] k = k (.bool (S.rzmay c t now mean w b)) [] :=
  (S.rzmay_k c t now mean w b k).trans (bif_lift (f := (fun v : Bool => k (.bool v) [])) (bif_lift (f := (fun v : Bool => k (.bool v) [])) (bif_lift (f := (fun v : Bool => k (.bool v) [])) (bif_lift (f := (fun v : Bool => k (.bool v) [])) (bif_lift (f := (fun v : Bool => k (.bool v) [])) (bif_lift (f := (fun v : Bool => k (.bool v) [])) (bif_lift (f := (fun v : Bool => k (.bool v) [])) rfl rfl) rfl) rfl) rfl) rfl) rfl) rfl)
def H18 : Hnd := fun R args σ k => match args, σ with
  | [.agg [.int .i64 target_, .int .i64 util_, .int .i64 stable_, .int .i64 panic_, .int .i64 grain_, .int .i64 threshold_, .int .i64 up_, .int .i64 down_, .int .i64 min_, .int .i64 max_, .int .i64 initial_, .int .i64 grace_, .int .i64 delay_, .int .i64 burst_, .int .i64 limit_, .int .i64 queue_, .int .i64 timeout_, .int .i64 ready_, .int .i64 subset_, .int .i64 sample_], .int .i64 t, .int .i64 now, .int .i64 mean, .int .i64 w, .int .i64 b], [] => k (.bool (S.rzmay ⟨target_, util_, stable_, panic_, grain_, threshold_, up_, down_, min_, max_, initial_, grace_, delay_, burst_, limit_, queue_, timeout_, ready_, subset_, sample_⟩ t now mean w b)) []
  | _, _ => none
theorem H18_ok : HndOk Try.prog 18 H18 := hnd_ok tis tisOk mixOk G16_ok F18 Try.func18 rfl (by
  intro R args σ k r h
  unfold H18 at h
  split at h
  · rename_i target_ util_ stable_ panic_ grain_ threshold_ up_ down_ min_ max_ initial_ grace_ delay_ burst_ limit_ queue_ timeout_ ready_ subset_ sample_ t now mean w b; exact ⟨0, (S.rzmay_v ⟨target_, util_, stable_, panic_, grain_, threshold_, up_, down_, min_, max_, initial_, grace_, delay_, burst_, limit_, queue_, timeout_, ready_, subset_, sample_⟩ t now mean w b _).trans h⟩
  · cases h)
def G18 : Env := Env.add 18 H18 G16
theorem G18_ok : EnvOk Try.prog G18 := envAdd_ok H18_ok G16_ok

/-! spinnakerref18.WantZero -/
def F20 : FCfg := ⟨keepAt [(0, [1, 2, 3, 4, 5, 6, 7, 8]), (1, [1, 2, 3, 4, 5, 6, 7, 8, 17]), (2, [16]), (3, [21]), (4, [16]), (5, [16])], loopAt [], []⟩
theorem S.rzwant_k {R : Type} (c : Cf) (t now want have_ mean w b : Int) (k : AVal → List Blk → Option R) : fnEval tis F20 0 G18 Try.f20 [.agg (cfA c), .int .i64 t, .int .i64 now, .int .i64 want, .int .i64 have_, .int .i64 mean, .int .i64 w, .int .i64 b] [] k =
  (bif decide (0 < want) then
    k (.int .i64 want) ([])
  else
    bif decide (have_ = 0) then
      bif decide (w = 0) then
        k (.int .i64 0) ([])
      else
        bif S.rzmay (Cf.mk (Cf.target c) (Cf.util c) (Cf.stable c) (Cf.panic c) (Cf.grain c) (Cf.threshold c) (Cf.up c) (Cf.down c) (Cf.min c) (Cf.max c) (Cf.initial c) (Cf.grace c) (Cf.delay c) (Cf.burst c) (Cf.limit c) (Cf.queue c) (Cf.timeout c) (Cf.ready c) (Cf.subset c) (Cf.sample c)) t now mean w b then
          k (.int .i64 0) ([])
        else
          k (.int .i64 1) ([])
    else
      bif S.rzmay (Cf.mk (Cf.target c) (Cf.util c) (Cf.stable c) (Cf.panic c) (Cf.grain c) (Cf.threshold c) (Cf.up c) (Cf.down c) (Cf.min c) (Cf.max c) (Cf.initial c) (Cf.grace c) (Cf.delay c) (Cf.burst c) (Cf.limit c) (Cf.queue c) (Cf.timeout c) (Cf.ready c) (Cf.subset c) (Cf.sample c)) t now mean w b then
        k (.int .i64 0) ([])
      else
        k (.int .i64 1) ([])) := by kernel_rfl
def S.rzwant (c : Cf) (t now want have_ mean w b : Int) : Int :=
  bif decide (0 < want) then
    (want)
  else
    bif decide (have_ = 0) then
      bif decide (w = 0) then
        (0)
      else
        bif S.rzmay (Cf.mk (Cf.target c) (Cf.util c) (Cf.stable c) (Cf.panic c) (Cf.grain c) (Cf.threshold c) (Cf.up c) (Cf.down c) (Cf.min c) (Cf.max c) (Cf.initial c) (Cf.grace c) (Cf.delay c) (Cf.burst c) (Cf.limit c) (Cf.queue c) (Cf.timeout c) (Cf.ready c) (Cf.subset c) (Cf.sample c)) t now mean w b then
          (0)
        else
          (1)
    else
      bif S.rzmay (Cf.mk (Cf.target c) (Cf.util c) (Cf.stable c) (Cf.panic c) (Cf.grain c) (Cf.threshold c) (Cf.up c) (Cf.down c) (Cf.min c) (Cf.max c) (Cf.initial c) (Cf.grace c) (Cf.delay c) (Cf.burst c) (Cf.limit c) (Cf.queue c) (Cf.timeout c) (Cf.ready c) (Cf.subset c) (Cf.sample c)) t now mean w b then
        (0)
      else
        (1)
theorem S.rzwant_v {R : Type} (c : Cf) (t now want have_ mean w b : Int) (k : AVal → List Blk → Option R) : fnEval tis F20 0 G18 Try.f20 [.agg (cfA c), .int .i64 t, .int .i64 now, .int .i64 want, .int .i64 have_, .int .i64 mean, .int .i64 w, .int .i64 b] [] k = k (.int .i64 (S.rzwant c t now want have_ mean w b)) [] :=
  (S.rzwant_k c t now want have_ mean w b k).trans (bif_lift (f := (fun v : Int => k (.int .i64 v) [])) rfl (bif_lift (f := (fun v : Int => k (.int .i64 v) [])) (bif_lift (f := (fun v : Int => k (.int .i64 v) [])) rfl (bif_lift (f := (fun v : Int => k (.int .i64 v) [])) rfl rfl)) (bif_lift (f := (fun v : Int => k (.int .i64 v) [])) rfl rfl)))
def H20 : Hnd := fun R args σ k => match args, σ with
  | [.agg [.int .i64 target_, .int .i64 util_, .int .i64 stable_, .int .i64 panic_, .int .i64 grain_, .int .i64 threshold_, .int .i64 up_, .int .i64 down_, .int .i64 min_, .int .i64 max_, .int .i64 initial_, .int .i64 grace_, .int .i64 delay_, .int .i64 burst_, .int .i64 limit_, .int .i64 queue_, .int .i64 timeout_, .int .i64 ready_, .int .i64 subset_, .int .i64 sample_], .int .i64 t, .int .i64 now, .int .i64 want, .int .i64 have_, .int .i64 mean, .int .i64 w, .int .i64 b], [] => k (.int .i64 (S.rzwant ⟨target_, util_, stable_, panic_, grain_, threshold_, up_, down_, min_, max_, initial_, grace_, delay_, burst_, limit_, queue_, timeout_, ready_, subset_, sample_⟩ t now want have_ mean w b)) []
  | _, _ => none
theorem H20_ok : HndOk Try.prog 20 H20 := hnd_ok tis tisOk mixOk G18_ok F20 Try.func20 rfl (by
  intro R args σ k r h
  unfold H20 at h
  split at h
  · rename_i target_ util_ stable_ panic_ grain_ threshold_ up_ down_ min_ max_ initial_ grace_ delay_ burst_ limit_ queue_ timeout_ ready_ subset_ sample_ t now want have_ mean w b; exact ⟨0, (S.rzwant_v ⟨target_, util_, stable_, panic_, grain_, threshold_, up_, down_, min_, max_, initial_, grace_, delay_, burst_, limit_, queue_, timeout_, ready_, subset_, sample_⟩ t now want have_ mean w b _).trans h⟩
  · cases h)
def G20 : Env := Env.add 20 H20 G18
theorem G20_ok : EnvOk Try.prog G20 := envAdd_ok H20_ok G18_ok

/-! spinnakerlaw22.told -/
def F14 : FCfg := ⟨keepAt [(0, []), (1, [1]), (2, [1, 2]), (3, [1, 2, 3]), (4, [1, 2, 3, 4]), (5, [0])], loopAt [], []⟩
theorem S.told22_k {R : Type}  (k : AVal → List Blk → Option R) : fnEval tis F14 0 G20 Try.f14 [] [] k =
  (k (.bool true) ([])) := by kernel_rfl
def S.told22  : Bool :=
  (true)
theorem S.told22_v {R : Type}  (k : AVal → List Blk → Option R) : fnEval tis F14 0 G20 Try.f14 [] [] k = k (.bool (S.told22)) [] :=
  (S.told22_k k).trans rfl
def H14 : Hnd := fun R args σ k => match args, σ with
  | [], [] => k (.bool (S.told22)) []
  | _, _ => none
theorem H14_ok : HndOk Try.prog 14 H14 := hnd_ok tis tisOk mixOk G20_ok F14 Try.func14 rfl (by
  intro R args σ k r h
  unfold H14 at h
  split at h
  · exact ⟨0, (S.told22_v _).trans h⟩
  · cases h)
def G14 : Env := Env.add 14 H14 G20
theorem G14_ok : EnvOk Try.prog G14 := envAdd_ok H14_ok G20_ok

/-! spinnakerlaw22.ZeroAsks -/
def F3 : FCfg := ⟨keepAt [(0, [1, 2, 3, 4, 5, 6, 7, 8, 9]), (1, [1, 2, 3, 4, 5, 6, 7, 8, 9, 19]), (2, [18])], loopAt [], []⟩
theorem S.ZeroAsks_k {R : Type} (c : Cf) (t now : Int) (p : Bool) (want have_ mean w b : Int) (k : AVal → List Blk → Option R) : fnEval tis F3 0 G14 Try.f3 [.agg (cfA c), .int .i64 t, .int .i64 now, .bool p, .int .i64 want, .int .i64 have_, .int .i64 mean, .int .i64 w, .int .i64 b] [] k =
  (bif decide (S.znext t now p = S.rzero t now p) then
    bif S.zmay (Cf.mk (Cf.target c) (Cf.util c) (Cf.stable c) (Cf.panic c) (Cf.grain c) (Cf.threshold c) (Cf.up c) (Cf.down c) (Cf.min c) (Cf.max c) (Cf.initial c) (Cf.grace c) (Cf.delay c) (Cf.burst c) (Cf.limit c) (Cf.queue c) (Cf.timeout c) (Cf.ready c) (Cf.subset c) (Cf.sample c)) t now mean w b == S.rzmay (Cf.mk (Cf.target c) (Cf.util c) (Cf.stable c) (Cf.panic c) (Cf.grain c) (Cf.threshold c) (Cf.up c) (Cf.down c) (Cf.min c) (Cf.max c) (Cf.initial c) (Cf.grace c) (Cf.delay c) (Cf.burst c) (Cf.limit c) (Cf.queue c) (Cf.timeout c) (Cf.ready c) (Cf.subset c) (Cf.sample c)) t now mean w b then
      k (.bool (decide (S.zwant (Cf.mk (Cf.target c) (Cf.util c) (Cf.stable c) (Cf.panic c) (Cf.grain c) (Cf.threshold c) (Cf.up c) (Cf.down c) (Cf.min c) (Cf.max c) (Cf.initial c) (Cf.grace c) (Cf.delay c) (Cf.burst c) (Cf.limit c) (Cf.queue c) (Cf.timeout c) (Cf.ready c) (Cf.subset c) (Cf.sample c)) t now want have_ mean w b = S.rzwant (Cf.mk (Cf.target c) (Cf.util c) (Cf.stable c) (Cf.panic c) (Cf.grain c) (Cf.threshold c) (Cf.up c) (Cf.down c) (Cf.min c) (Cf.max c) (Cf.initial c) (Cf.grace c) (Cf.delay c) (Cf.burst c) (Cf.limit c) (Cf.queue c) (Cf.timeout c) (Cf.ready c) (Cf.subset c) (Cf.sample c)) t now want have_ mean w b))) ([])
    else
      k (.bool false) ([])
  else
    k (.bool false) ([])) := by kernel_rfl
def S.ZeroAsks (c : Cf) (t now : Int) (p : Bool) (want have_ mean w b : Int) : Bool :=
  bif decide (S.znext t now p = S.rzero t now p) then
    bif S.zmay (Cf.mk (Cf.target c) (Cf.util c) (Cf.stable c) (Cf.panic c) (Cf.grain c) (Cf.threshold c) (Cf.up c) (Cf.down c) (Cf.min c) (Cf.max c) (Cf.initial c) (Cf.grace c) (Cf.delay c) (Cf.burst c) (Cf.limit c) (Cf.queue c) (Cf.timeout c) (Cf.ready c) (Cf.subset c) (Cf.sample c)) t now mean w b == S.rzmay (Cf.mk (Cf.target c) (Cf.util c) (Cf.stable c) (Cf.panic c) (Cf.grain c) (Cf.threshold c) (Cf.up c) (Cf.down c) (Cf.min c) (Cf.max c) (Cf.initial c) (Cf.grace c) (Cf.delay c) (Cf.burst c) (Cf.limit c) (Cf.queue c) (Cf.timeout c) (Cf.ready c) (Cf.subset c) (Cf.sample c)) t now mean w b then
      (decide (S.zwant (Cf.mk (Cf.target c) (Cf.util c) (Cf.stable c) (Cf.panic c) (Cf.grain c) (Cf.threshold c) (Cf.up c) (Cf.down c) (Cf.min c) (Cf.max c) (Cf.initial c) (Cf.grace c) (Cf.delay c) (Cf.burst c) (Cf.limit c) (Cf.queue c) (Cf.timeout c) (Cf.ready c) (Cf.subset c) (Cf.sample c)) t now want have_ mean w b = S.rzwant (Cf.mk (Cf.target c) (Cf.util c) (Cf.stable c) (Cf.panic c) (Cf.grain c) (Cf.threshold c) (Cf.up c) (Cf.down c) (Cf.min c) (Cf.max c) (Cf.initial c) (Cf.grace c) (Cf.delay c) (Cf.burst c) (Cf.limit c) (Cf.queue c) (Cf.timeout c) (Cf.ready c) (Cf.subset c) (Cf.sample c)) t now want have_ mean w b))
    else
      (false)
  else
    (false)
theorem S.ZeroAsks_v {R : Type} (c : Cf) (t now : Int) (p : Bool) (want have_ mean w b : Int) (k : AVal → List Blk → Option R) : fnEval tis F3 0 G14 Try.f3 [.agg (cfA c), .int .i64 t, .int .i64 now, .bool p, .int .i64 want, .int .i64 have_, .int .i64 mean, .int .i64 w, .int .i64 b] [] k = k (.bool (S.ZeroAsks c t now p want have_ mean w b)) [] :=
  (S.ZeroAsks_k c t now p want have_ mean w b k).trans (bif_lift (f := (fun v : Bool => k (.bool v) [])) (bif_lift (f := (fun v : Bool => k (.bool v) [])) rfl rfl) rfl)
def H3 : Hnd := fun R args σ k => match args, σ with
  | [.agg [.int .i64 target_, .int .i64 util_, .int .i64 stable_, .int .i64 panic_, .int .i64 grain_, .int .i64 threshold_, .int .i64 up_, .int .i64 down_, .int .i64 min_, .int .i64 max_, .int .i64 initial_, .int .i64 grace_, .int .i64 delay_, .int .i64 burst_, .int .i64 limit_, .int .i64 queue_, .int .i64 timeout_, .int .i64 ready_, .int .i64 subset_, .int .i64 sample_], .int .i64 t, .int .i64 now, .bool p, .int .i64 want, .int .i64 have_, .int .i64 mean, .int .i64 w, .int .i64 b], [] => k (.bool (S.ZeroAsks ⟨target_, util_, stable_, panic_, grain_, threshold_, up_, down_, min_, max_, initial_, grace_, delay_, burst_, limit_, queue_, timeout_, ready_, subset_, sample_⟩ t now p want have_ mean w b)) []
  | _, _ => none
theorem H3_ok : HndOk Try.prog 3 H3 := hnd_ok tis tisOk mixOk G14_ok F3 Try.func3 rfl (by
  intro R args σ k r h
  unfold H3 at h
  split at h
  · rename_i target_ util_ stable_ panic_ grain_ threshold_ up_ down_ min_ max_ initial_ grace_ delay_ burst_ limit_ queue_ timeout_ ready_ subset_ sample_ t now p want have_ mean w b; exact ⟨0, (S.ZeroAsks_v ⟨target_, util_, stable_, panic_, grain_, threshold_, up_, down_, min_, max_, initial_, grace_, delay_, burst_, limit_, queue_, timeout_, ready_, subset_, sample_⟩ t now p want have_ mean w b _).trans h⟩
  · cases h)
def G3 : Env := Env.add 3 H3 G14
theorem G3_ok : EnvOk Try.prog G3 := envAdd_ok H3_ok G14_ok

/-! spinnakerlaw22.ZeroOne -/
def F5 : FCfg := ⟨keepAt [(0, [0, 1, 2, 3, 4, 5]), (1, [0, 1, 2, 3, 4, 5, 13]), (2, [0, 1, 13, 14, 15, 16, 17]), (3, [1, 13, 14, 15, 16, 17, 18]), (4, [13, 14, 15, 16, 17, 18, 19]), (5, [13, 14, 15, 16, 17, 18, 19, 58]), (6, [12]), (7, [13, 14, 15, 16, 17, 18, 19, 69]), (8, [12]), (9, [12])], loopAt [], []⟩
theorem S.ZeroOne_k {R : Type} (a0 a1 a2 a3 a4 a5 : Int) (k : AVal → List Blk → Option R) : fnEval tis F5 0 G3 Try.f5 [.int .i64 a0, .int .i64 a1, .int .i64 a2, .int .i64 a3, .int .i64 a4, .int .i64 a5] [] k =
  (bif decide (Go.IntKind.wrap .i64 (Int.tmod (Go.IntKind.wrap .u64 a2) 10) = 0) then
    bif decide (Go.IntKind.wrap .i64 (Int.tmod (Go.IntKind.wrap .u64 a4) 10) = 0) then
      k (.bool (decide (S.zwant (Cf.mk 10000 700 60 6 1 2000 10000 2000 0 0 1 30 0 20000 10 100 60 3 0 0) (Go.IntKind.wrap .i64 (Int.tmod (Go.IntKind.wrap .u64 a0) 100)) (Go.IntKind.wrap .i64 (Int.tmod (Go.IntKind.wrap .u64 a1) 1000)) 0 (Go.IntKind.wrap .i64 (Int.tmod (Go.IntKind.wrap .u64 a2) 10)) (Go.IntKind.wrap .i64 (Int.tmod (Go.IntKind.wrap .u64 a3) 10)) (Go.IntKind.wrap .i64 (Int.tmod (Go.IntKind.wrap .u64 a4) 10)) (Go.IntKind.wrap .i64 (Int.tmod (Go.IntKind.wrap .u64 a5) 10)) = 0))) ([])
    else
      bif decide (0 < Go.IntKind.wrap .i64 (Go.IntKind.wrap .i64 (Go.IntKind.wrap .i64 (Int.tmod (Go.IntKind.wrap .u64 a3) 10) + Go.IntKind.wrap .i64 (Int.tmod (Go.IntKind.wrap .u64 a4) 10)) + Go.IntKind.wrap .i64 (Int.tmod (Go.IntKind.wrap .u64 a5) 10))) then
        bif decide (S.zwant (Cf.mk 10000 700 60 6 1 2000 10000 2000 0 0 1 30 0 20000 10 100 60 3 0 0) (Go.IntKind.wrap .i64 (Int.tmod (Go.IntKind.wrap .u64 a0) 100)) (Go.IntKind.wrap .i64 (Int.tmod (Go.IntKind.wrap .u64 a1) 1000)) 0 (Go.IntKind.wrap .i64 (Int.tmod (Go.IntKind.wrap .u64 a2) 10)) (Go.IntKind.wrap .i64 (Int.tmod (Go.IntKind.wrap .u64 a3) 10)) (Go.IntKind.wrap .i64 (Int.tmod (Go.IntKind.wrap .u64 a4) 10)) (Go.IntKind.wrap .i64 (Int.tmod (Go.IntKind.wrap .u64 a5) 10)) = 1) then
          k (.bool (decide (S.zwant (Cf.mk 10000 700 60 6 1 2000 10000 2000 0 0 1 30 0 20000 10 100 60 3 0 0) (Go.IntKind.wrap .i64 (Int.tmod (Go.IntKind.wrap .u64 a0) 100)) 5 4 (Go.IntKind.wrap .i64 (Int.tmod (Go.IntKind.wrap .u64 a2) 10)) (Go.IntKind.wrap .i64 (Int.tmod (Go.IntKind.wrap .u64 a3) 10)) (Go.IntKind.wrap .i64 (Int.tmod (Go.IntKind.wrap .u64 a4) 10)) (Go.IntKind.wrap .i64 (Int.tmod (Go.IntKind.wrap .u64 a5) 10)) = 4))) ([])
        else
          k (.bool false) ([])
      else
        bif decide (0 ≤ S.zwant (Cf.mk 10000 700 60 6 1 2000 10000 2000 0 0 1 30 0 20000 10 100 60 3 0 0) (Go.IntKind.wrap .i64 (Int.tmod (Go.IntKind.wrap .u64 a0) 100)) (Go.IntKind.wrap .i64 (Int.tmod (Go.IntKind.wrap .u64 a1) 1000)) 0 (Go.IntKind.wrap .i64 (Int.tmod (Go.IntKind.wrap .u64 a2) 10)) (Go.IntKind.wrap .i64 (Int.tmod (Go.IntKind.wrap .u64 a3) 10)) (Go.IntKind.wrap .i64 (Int.tmod (Go.IntKind.wrap .u64 a4) 10)) (Go.IntKind.wrap .i64 (Int.tmod (Go.IntKind.wrap .u64 a5) 10))) then
          k (.bool (decide (S.zwant (Cf.mk 10000 700 60 6 1 2000 10000 2000 0 0 1 30 0 20000 10 100 60 3 0 0) (Go.IntKind.wrap .i64 (Int.tmod (Go.IntKind.wrap .u64 a0) 100)) (Go.IntKind.wrap .i64 (Int.tmod (Go.IntKind.wrap .u64 a1) 1000)) 0 (Go.IntKind.wrap .i64 (Int.tmod (Go.IntKind.wrap .u64 a2) 10)) (Go.IntKind.wrap .i64 (Int.tmod (Go.IntKind.wrap .u64 a3) 10)) (Go.IntKind.wrap .i64 (Int.tmod (Go.IntKind.wrap .u64 a4) 10)) (Go.IntKind.wrap .i64 (Int.tmod (Go.IntKind.wrap .u64 a5) 10)) ≤ 1))) ([])
        else
          k (.bool false) ([])
  else
    bif decide (0 < Go.IntKind.wrap .i64 (Go.IntKind.wrap .i64 (Go.IntKind.wrap .i64 (Int.tmod (Go.IntKind.wrap .u64 a3) 10) + Go.IntKind.wrap .i64 (Int.tmod (Go.IntKind.wrap .u64 a4) 10)) + Go.IntKind.wrap .i64 (Int.tmod (Go.IntKind.wrap .u64 a5) 10))) then
      bif decide (S.zwant (Cf.mk 10000 700 60 6 1 2000 10000 2000 0 0 1 30 0 20000 10 100 60 3 0 0) (Go.IntKind.wrap .i64 (Int.tmod (Go.IntKind.wrap .u64 a0) 100)) (Go.IntKind.wrap .i64 (Int.tmod (Go.IntKind.wrap .u64 a1) 1000)) 0 (Go.IntKind.wrap .i64 (Int.tmod (Go.IntKind.wrap .u64 a2) 10)) (Go.IntKind.wrap .i64 (Int.tmod (Go.IntKind.wrap .u64 a3) 10)) (Go.IntKind.wrap .i64 (Int.tmod (Go.IntKind.wrap .u64 a4) 10)) (Go.IntKind.wrap .i64 (Int.tmod (Go.IntKind.wrap .u64 a5) 10)) = 1) then
        k (.bool (decide (S.zwant (Cf.mk 10000 700 60 6 1 2000 10000 2000 0 0 1 30 0 20000 10 100 60 3 0 0) (Go.IntKind.wrap .i64 (Int.tmod (Go.IntKind.wrap .u64 a0) 100)) 5 4 (Go.IntKind.wrap .i64 (Int.tmod (Go.IntKind.wrap .u64 a2) 10)) (Go.IntKind.wrap .i64 (Int.tmod (Go.IntKind.wrap .u64 a3) 10)) (Go.IntKind.wrap .i64 (Int.tmod (Go.IntKind.wrap .u64 a4) 10)) (Go.IntKind.wrap .i64 (Int.tmod (Go.IntKind.wrap .u64 a5) 10)) = 4))) ([])
      else
        k (.bool false) ([])
    else
      bif decide (0 ≤ S.zwant (Cf.mk 10000 700 60 6 1 2000 10000 2000 0 0 1 30 0 20000 10 100 60 3 0 0) (Go.IntKind.wrap .i64 (Int.tmod (Go.IntKind.wrap .u64 a0) 100)) (Go.IntKind.wrap .i64 (Int.tmod (Go.IntKind.wrap .u64 a1) 1000)) 0 (Go.IntKind.wrap .i64 (Int.tmod (Go.IntKind.wrap .u64 a2) 10)) (Go.IntKind.wrap .i64 (Int.tmod (Go.IntKind.wrap .u64 a3) 10)) (Go.IntKind.wrap .i64 (Int.tmod (Go.IntKind.wrap .u64 a4) 10)) (Go.IntKind.wrap .i64 (Int.tmod (Go.IntKind.wrap .u64 a5) 10))) then
        k (.bool (decide (S.zwant (Cf.mk 10000 700 60 6 1 2000 10000 2000 0 0 1 30 0 20000 10 100 60 3 0 0) (Go.IntKind.wrap .i64 (Int.tmod (Go.IntKind.wrap .u64 a0) 100)) (Go.IntKind.wrap .i64 (Int.tmod (Go.IntKind.wrap .u64 a1) 1000)) 0 (Go.IntKind.wrap .i64 (Int.tmod (Go.IntKind.wrap .u64 a2) 10)) (Go.IntKind.wrap .i64 (Int.tmod (Go.IntKind.wrap .u64 a3) 10)) (Go.IntKind.wrap .i64 (Int.tmod (Go.IntKind.wrap .u64 a4) 10)) (Go.IntKind.wrap .i64 (Int.tmod (Go.IntKind.wrap .u64 a5) 10)) ≤ 1))) ([])
      else
        k (.bool false) ([])) := by kernel_rfl
def S.ZeroOne (a0 a1 a2 a3 a4 a5 : Int) : Bool :=
  bif decide (Go.IntKind.wrap .i64 (Int.tmod (Go.IntKind.wrap .u64 a2) 10) = 0) then
    bif decide (Go.IntKind.wrap .i64 (Int.tmod (Go.IntKind.wrap .u64 a4) 10) = 0) then
      (decide (S.zwant (Cf.mk 10000 700 60 6 1 2000 10000 2000 0 0 1 30 0 20000 10 100 60 3 0 0) (Go.IntKind.wrap .i64 (Int.tmod (Go.IntKind.wrap .u64 a0) 100)) (Go.IntKind.wrap .i64 (Int.tmod (Go.IntKind.wrap .u64 a1) 1000)) 0 (Go.IntKind.wrap .i64 (Int.tmod (Go.IntKind.wrap .u64 a2) 10)) (Go.IntKind.wrap .i64 (Int.tmod (Go.IntKind.wrap .u64 a3) 10)) (Go.IntKind.wrap .i64 (Int.tmod (Go.IntKind.wrap .u64 a4) 10)) (Go.IntKind.wrap .i64 (Int.tmod (Go.IntKind.wrap .u64 a5) 10)) = 0))
    else
      bif decide (0 < Go.IntKind.wrap .i64 (Go.IntKind.wrap .i64 (Go.IntKind.wrap .i64 (Int.tmod (Go.IntKind.wrap .u64 a3) 10) + Go.IntKind.wrap .i64 (Int.tmod (Go.IntKind.wrap .u64 a4) 10)) + Go.IntKind.wrap .i64 (Int.tmod (Go.IntKind.wrap .u64 a5) 10))) then
        bif decide (S.zwant (Cf.mk 10000 700 60 6 1 2000 10000 2000 0 0 1 30 0 20000 10 100 60 3 0 0) (Go.IntKind.wrap .i64 (Int.tmod (Go.IntKind.wrap .u64 a0) 100)) (Go.IntKind.wrap .i64 (Int.tmod (Go.IntKind.wrap .u64 a1) 1000)) 0 (Go.IntKind.wrap .i64 (Int.tmod (Go.IntKind.wrap .u64 a2) 10)) (Go.IntKind.wrap .i64 (Int.tmod (Go.IntKind.wrap .u64 a3) 10)) (Go.IntKind.wrap .i64 (Int.tmod (Go.IntKind.wrap .u64 a4) 10)) (Go.IntKind.wrap .i64 (Int.tmod (Go.IntKind.wrap .u64 a5) 10)) = 1) then
          (decide (S.zwant (Cf.mk 10000 700 60 6 1 2000 10000 2000 0 0 1 30 0 20000 10 100 60 3 0 0) (Go.IntKind.wrap .i64 (Int.tmod (Go.IntKind.wrap .u64 a0) 100)) 5 4 (Go.IntKind.wrap .i64 (Int.tmod (Go.IntKind.wrap .u64 a2) 10)) (Go.IntKind.wrap .i64 (Int.tmod (Go.IntKind.wrap .u64 a3) 10)) (Go.IntKind.wrap .i64 (Int.tmod (Go.IntKind.wrap .u64 a4) 10)) (Go.IntKind.wrap .i64 (Int.tmod (Go.IntKind.wrap .u64 a5) 10)) = 4))
        else
          (false)
      else
        bif decide (0 ≤ S.zwant (Cf.mk 10000 700 60 6 1 2000 10000 2000 0 0 1 30 0 20000 10 100 60 3 0 0) (Go.IntKind.wrap .i64 (Int.tmod (Go.IntKind.wrap .u64 a0) 100)) (Go.IntKind.wrap .i64 (Int.tmod (Go.IntKind.wrap .u64 a1) 1000)) 0 (Go.IntKind.wrap .i64 (Int.tmod (Go.IntKind.wrap .u64 a2) 10)) (Go.IntKind.wrap .i64 (Int.tmod (Go.IntKind.wrap .u64 a3) 10)) (Go.IntKind.wrap .i64 (Int.tmod (Go.IntKind.wrap .u64 a4) 10)) (Go.IntKind.wrap .i64 (Int.tmod (Go.IntKind.wrap .u64 a5) 10))) then
          (decide (S.zwant (Cf.mk 10000 700 60 6 1 2000 10000 2000 0 0 1 30 0 20000 10 100 60 3 0 0) (Go.IntKind.wrap .i64 (Int.tmod (Go.IntKind.wrap .u64 a0) 100)) (Go.IntKind.wrap .i64 (Int.tmod (Go.IntKind.wrap .u64 a1) 1000)) 0 (Go.IntKind.wrap .i64 (Int.tmod (Go.IntKind.wrap .u64 a2) 10)) (Go.IntKind.wrap .i64 (Int.tmod (Go.IntKind.wrap .u64 a3) 10)) (Go.IntKind.wrap .i64 (Int.tmod (Go.IntKind.wrap .u64 a4) 10)) (Go.IntKind.wrap .i64 (Int.tmod (Go.IntKind.wrap .u64 a5) 10)) ≤ 1))
        else
          (false)
  else
    bif decide (0 < Go.IntKind.wrap .i64 (Go.IntKind.wrap .i64 (Go.IntKind.wrap .i64 (Int.tmod (Go.IntKind.wrap .u64 a3) 10) + Go.IntKind.wrap .i64 (Int.tmod (Go.IntKind.wrap .u64 a4) 10)) + Go.IntKind.wrap .i64 (Int.tmod (Go.IntKind.wrap .u64 a5) 10))) then
      bif decide (S.zwant (Cf.mk 10000 700 60 6 1 2000 10000 2000 0 0 1 30 0 20000 10 100 60 3 0 0) (Go.IntKind.wrap .i64 (Int.tmod (Go.IntKind.wrap .u64 a0) 100)) (Go.IntKind.wrap .i64 (Int.tmod (Go.IntKind.wrap .u64 a1) 1000)) 0 (Go.IntKind.wrap .i64 (Int.tmod (Go.IntKind.wrap .u64 a2) 10)) (Go.IntKind.wrap .i64 (Int.tmod (Go.IntKind.wrap .u64 a3) 10)) (Go.IntKind.wrap .i64 (Int.tmod (Go.IntKind.wrap .u64 a4) 10)) (Go.IntKind.wrap .i64 (Int.tmod (Go.IntKind.wrap .u64 a5) 10)) = 1) then
        (decide (S.zwant (Cf.mk 10000 700 60 6 1 2000 10000 2000 0 0 1 30 0 20000 10 100 60 3 0 0) (Go.IntKind.wrap .i64 (Int.tmod (Go.IntKind.wrap .u64 a0) 100)) 5 4 (Go.IntKind.wrap .i64 (Int.tmod (Go.IntKind.wrap .u64 a2) 10)) (Go.IntKind.wrap .i64 (Int.tmod (Go.IntKind.wrap .u64 a3) 10)) (Go.IntKind.wrap .i64 (Int.tmod (Go.IntKind.wrap .u64 a4) 10)) (Go.IntKind.wrap .i64 (Int.tmod (Go.IntKind.wrap .u64 a5) 10)) = 4))
      else
        (false)
    else
      bif decide (0 ≤ S.zwant (Cf.mk 10000 700 60 6 1 2000 10000 2000 0 0 1 30 0 20000 10 100 60 3 0 0) (Go.IntKind.wrap .i64 (Int.tmod (Go.IntKind.wrap .u64 a0) 100)) (Go.IntKind.wrap .i64 (Int.tmod (Go.IntKind.wrap .u64 a1) 1000)) 0 (Go.IntKind.wrap .i64 (Int.tmod (Go.IntKind.wrap .u64 a2) 10)) (Go.IntKind.wrap .i64 (Int.tmod (Go.IntKind.wrap .u64 a3) 10)) (Go.IntKind.wrap .i64 (Int.tmod (Go.IntKind.wrap .u64 a4) 10)) (Go.IntKind.wrap .i64 (Int.tmod (Go.IntKind.wrap .u64 a5) 10))) then
        (decide (S.zwant (Cf.mk 10000 700 60 6 1 2000 10000 2000 0 0 1 30 0 20000 10 100 60 3 0 0) (Go.IntKind.wrap .i64 (Int.tmod (Go.IntKind.wrap .u64 a0) 100)) (Go.IntKind.wrap .i64 (Int.tmod (Go.IntKind.wrap .u64 a1) 1000)) 0 (Go.IntKind.wrap .i64 (Int.tmod (Go.IntKind.wrap .u64 a2) 10)) (Go.IntKind.wrap .i64 (Int.tmod (Go.IntKind.wrap .u64 a3) 10)) (Go.IntKind.wrap .i64 (Int.tmod (Go.IntKind.wrap .u64 a4) 10)) (Go.IntKind.wrap .i64 (Int.tmod (Go.IntKind.wrap .u64 a5) 10)) ≤ 1))
      else
        (false)
theorem S.ZeroOne_v {R : Type} (a0 a1 a2 a3 a4 a5 : Int) (k : AVal → List Blk → Option R) : fnEval tis F5 0 G3 Try.f5 [.int .i64 a0, .int .i64 a1, .int .i64 a2, .int .i64 a3, .int .i64 a4, .int .i64 a5] [] k = k (.bool (S.ZeroOne a0 a1 a2 a3 a4 a5)) [] :=
  (S.ZeroOne_k a0 a1 a2 a3 a4 a5 k).trans (bif_lift (f := (fun v : Bool => k (.bool v) [])) (bif_lift (f := (fun v : Bool => k (.bool v) [])) rfl (bif_lift (f := (fun v : Bool => k (.bool v) [])) (bif_lift (f := (fun v : Bool => k (.bool v) [])) rfl rfl) (bif_lift (f := (fun v : Bool => k (.bool v) [])) rfl rfl))) (bif_lift (f := (fun v : Bool => k (.bool v) [])) (bif_lift (f := (fun v : Bool => k (.bool v) [])) rfl rfl) (bif_lift (f := (fun v : Bool => k (.bool v) [])) rfl rfl)))
def H5 : Hnd := fun R args σ k => match args, σ with
  | [.int .i64 a0, .int .i64 a1, .int .i64 a2, .int .i64 a3, .int .i64 a4, .int .i64 a5], [] => k (.bool (S.ZeroOne a0 a1 a2 a3 a4 a5)) []
  | _, _ => none
theorem H5_ok : HndOk Try.prog 5 H5 := hnd_ok tis tisOk mixOk G3_ok F5 Try.func5 rfl (by
  intro R args σ k r h
  unfold H5 at h
  split at h
  · rename_i a0 a1 a2 a3 a4 a5; exact ⟨0, (S.ZeroOne_v a0 a1 a2 a3 a4 a5 _).trans h⟩
  · cases h)
def G5 : Env := Env.add 5 H5 G3
theorem G5_ok : EnvOk Try.prog G5 := envAdd_ok H5_ok G3_ok
end Go.Proofs.Ytdcfjndlmmldpaa.AB
