/- The functions of layer 12, as plain functions. -/
import Derived.Test.YtdflpflffccmgaaSrconf
namespace Go.Proofs.Ytdflpflffccmgaa.AB
set_option linter.unusedVariables false

/-! spinnakerref1.Default -/
def F22 : FCfg := ⟨keepAt [(0, [0]), (1, [0])], loopAt [], []⟩
theorem S.dflt_k {R : Type}  (k : AVal → List Blk → Option R) : fnEval tis F22 0 G28 Try.f22 [] [] k =
  (k (.agg [.int .i64 10000, .int .i64 700, .int .i64 60, .int .i64 6, .int .i64 1, .int .i64 2000, .int .i64 10000, .int .i64 2000, .int .i64 0, .int .i64 0, .int .i64 1, .int .i64 30, .int .i64 0, .int .i64 20000, .int .i64 10, .int .i64 100, .int .i64 60, .int .i64 3, .int .i64 0, .int .i64 0]) ([])) := by kernel_rfl
noncomputable def S.dflt  : Int × Int × Int × Int × Int × Int × Int × Int × Int × Int × Int × Int × Int × Int × Int × Int × Int × Int × Int × Int :=
  (10000, 700, 60, 6, 1, 2000, 10000, 2000, 0, 0, 1, 30, 0, 20000, 10, 100, 60, 3, 0, 0)
theorem S.dflt_v {R : Type}  (k : AVal → List Blk → Option R) : fnEval tis F22 0 G28 Try.f22 [] [] k = k (.agg [(.int .i64 (S.dflt).1), (.int .i64 (S.dflt).2.1), (.int .i64 (S.dflt).2.2.1), (.int .i64 (S.dflt).2.2.2.1), (.int .i64 (S.dflt).2.2.2.2.1), (.int .i64 (S.dflt).2.2.2.2.2.1), (.int .i64 (S.dflt).2.2.2.2.2.2.1), (.int .i64 (S.dflt).2.2.2.2.2.2.2.1), (.int .i64 (S.dflt).2.2.2.2.2.2.2.2.1), (.int .i64 (S.dflt).2.2.2.2.2.2.2.2.2.1), (.int .i64 (S.dflt).2.2.2.2.2.2.2.2.2.2.1), (.int .i64 (S.dflt).2.2.2.2.2.2.2.2.2.2.2.1), (.int .i64 (S.dflt).2.2.2.2.2.2.2.2.2.2.2.2.1), (.int .i64 (S.dflt).2.2.2.2.2.2.2.2.2.2.2.2.2.1), (.int .i64 (S.dflt).2.2.2.2.2.2.2.2.2.2.2.2.2.2.1), (.int .i64 (S.dflt).2.2.2.2.2.2.2.2.2.2.2.2.2.2.2.1), (.int .i64 (S.dflt).2.2.2.2.2.2.2.2.2.2.2.2.2.2.2.2.1), (.int .i64 (S.dflt).2.2.2.2.2.2.2.2.2.2.2.2.2.2.2.2.2.1), (.int .i64 (S.dflt).2.2.2.2.2.2.2.2.2.2.2.2.2.2.2.2.2.2.1), (.int .i64 (S.dflt).2.2.2.2.2.2.2.2.2.2.2.2.2.2.2.2.2.2.2)]) [] :=
  (S.dflt_k k).trans rfl
noncomputable def H22 : Hnd := fun R args σ k => match args, σ with
  | [], [] => k (.agg [(.int .i64 (S.dflt).1), (.int .i64 (S.dflt).2.1), (.int .i64 (S.dflt).2.2.1), (.int .i64 (S.dflt).2.2.2.1), (.int .i64 (S.dflt).2.2.2.2.1), (.int .i64 (S.dflt).2.2.2.2.2.1), (.int .i64 (S.dflt).2.2.2.2.2.2.1), (.int .i64 (S.dflt).2.2.2.2.2.2.2.1), (.int .i64 (S.dflt).2.2.2.2.2.2.2.2.1), (.int .i64 (S.dflt).2.2.2.2.2.2.2.2.2.1), (.int .i64 (S.dflt).2.2.2.2.2.2.2.2.2.2.1), (.int .i64 (S.dflt).2.2.2.2.2.2.2.2.2.2.2.1), (.int .i64 (S.dflt).2.2.2.2.2.2.2.2.2.2.2.2.1), (.int .i64 (S.dflt).2.2.2.2.2.2.2.2.2.2.2.2.2.1), (.int .i64 (S.dflt).2.2.2.2.2.2.2.2.2.2.2.2.2.2.1), (.int .i64 (S.dflt).2.2.2.2.2.2.2.2.2.2.2.2.2.2.2.1), (.int .i64 (S.dflt).2.2.2.2.2.2.2.2.2.2.2.2.2.2.2.2.1), (.int .i64 (S.dflt).2.2.2.2.2.2.2.2.2.2.2.2.2.2.2.2.2.1), (.int .i64 (S.dflt).2.2.2.2.2.2.2.2.2.2.2.2.2.2.2.2.2.2.1), (.int .i64 (S.dflt).2.2.2.2.2.2.2.2.2.2.2.2.2.2.2.2.2.2.2)]) []
  | _, _ => none
theorem H22_ok : HndOk Try.prog 22 H22 := hnd_ok tis tisOk mixOk G28_ok F22 Try.func22 rfl (by
  intro R args σ k r h
  unfold H22 at h
  split at h
  · exact ⟨0, (S.dflt_v _).trans h⟩
  · cases h)
noncomputable def G22 : Env := Env.add 22 H22 G28
theorem G22_ok : EnvOk Try.prog G22 := envAdd_ok H22_ok G28_ok

/-! conf.Per -/
def F42 : FCfg := ⟨keepAt [(0, [1]), (1, [3]), (2, [2])], loopAt [], []⟩
theorem S.per_k {R : Type} (c : Cf) (k : AVal → List Blk → Option R) : fnEval tis F42 0 G22 Try.f42 [.agg (cfA c)] [] k =
  ((optK (S.mmul (Cf.target c) (Cf.util c)) fun o2 =>
    k (.int .i64 (if 1 > Prod.fst o2 then 1 else Prod.fst o2)) ([]))) := by kernel_rfl
noncomputable def S.per (c : Cf) : Option (Int) :=
  (optK (S.mmul (Cf.target c) (Cf.util c)) fun o2 =>
    some (if 1 > Prod.fst o2 then 1 else Prod.fst o2))
theorem S.per_v {R : Type} (c : Cf) (k : AVal → List Blk → Option R) : fnEval tis F42 0 G22 Try.f42 [.agg (cfA c)] [] k = oK (fun v : Int => k (.int .i64 v) []) (S.per c) :=
  (S.per_k c k).trans (opt_lift fun o2 => rfl)
noncomputable def H42 : Hnd := fun R args σ k => match args, σ with
  | [.agg [.int .i64 target_, .int .i64 util_, .int .i64 stable_, .int .i64 panic_, .int .i64 grain_, .int .i64 threshold_, .int .i64 up_, .int .i64 down_, .int .i64 min_, .int .i64 max_, .int .i64 initial_, .int .i64 grace_, .int .i64 delay_, .int .i64 burst_, .int .i64 limit_, .int .i64 queue_, .int .i64 timeout_, .int .i64 ready_, .int .i64 subset_, .int .i64 sample_]], [] => oK (fun v : Int => k (.int .i64 v) []) (S.per ⟨target_, util_, stable_, panic_, grain_, threshold_, up_, down_, min_, max_, initial_, grace_, delay_, burst_, limit_, queue_, timeout_, ready_, subset_, sample_⟩)
  | _, _ => none
theorem H42_ok : HndOk Try.prog 42 H42 := hnd_ok tis tisOk mixOk G22_ok F42 Try.func42 rfl (by
  intro R args σ k r h
  unfold H42 at h
  split at h
  · rename_i target_ util_ stable_ panic_ grain_ threshold_ up_ down_ min_ max_ initial_ grace_ delay_ burst_ limit_ queue_ timeout_ ready_ subset_ sample_; exact ⟨0, (S.per_v ⟨target_, util_, stable_, panic_, grain_, threshold_, up_, down_, min_, max_, initial_, grace_, delay_, burst_, limit_, queue_, timeout_, ready_, subset_, sample_⟩ _).trans h⟩
  · cases h)
noncomputable def G42 : Env := Env.add 42 H42 G22
theorem G42_ok : EnvOk Try.prog G42 := envAdd_ok H42_ok G22_ok

/-! want.number -/
def F43 : FCfg := ⟨keepAt [(0, [0, 1]), (1, [0, 1, 5, 6]), (2, [0, 1, 5, 13]), (3, [1, 5]), (4, [4])], loopAt [], []⟩
theorem S.wnum_k {R : Type} (n lo : Int) (k : AVal → List Blk → Option R) : fnEval tis F43 0 G42 Try.f43 [.iface 2 (.int .i64 n), .int .i64 lo] [] k =
  (k (.int .i64 (S.mclamp n lo 1000000)) ([])) := by kernel_rfl
noncomputable def S.wnum (n lo : Int) : Int :=
  (S.mclamp n lo 1000000)
theorem S.wnum_v {R : Type} (n lo : Int) (k : AVal → List Blk → Option R) : fnEval tis F43 0 G42 Try.f43 [.iface 2 (.int .i64 n), .int .i64 lo] [] k = k (.int .i64 (S.wnum n lo)) [] :=
  (S.wnum_k n lo k).trans rfl
theorem S.wnum1_k {R : Type} (n lo : Int) (k : AVal → List Blk → Option R) : fnEval tis F43 0 G42 Try.f43 [.iface 3 (.int .i64 n), .int .i64 lo] [] k =
  (k (.int .i64 (S.mclamp n lo 1000000)) ([])) := by kernel_rfl
noncomputable def S.wnum1 (n lo : Int) : Int :=
  (S.mclamp n lo 1000000)
theorem S.wnum1_v {R : Type} (n lo : Int) (k : AVal → List Blk → Option R) : fnEval tis F43 0 G42 Try.f43 [.iface 3 (.int .i64 n), .int .i64 lo] [] k = k (.int .i64 (S.wnum1 n lo)) [] :=
  (S.wnum1_k n lo k).trans rfl
noncomputable def H43 : Hnd := fun R args σ k => match args, σ with
  | [.iface 2 (.int .i64 n), .int .i64 lo], [] => k (.int .i64 (S.wnum n lo)) []
  | [.iface 3 (.int .i64 n), .int .i64 lo], [] => k (.int .i64 (S.wnum1 n lo)) []
  | _, _ => none
theorem H43_ok : HndOk Try.prog 43 H43 := hnd_ok tis tisOk mixOk G42_ok F43 Try.func43 rfl (by
  intro R args σ k r h
  unfold H43 at h
  split at h
  · rename_i n lo; exact ⟨0, (S.wnum_v n lo _).trans h⟩
  · rename_i n lo; exact ⟨0, (S.wnum1_v n lo _).trans h⟩
  · cases h)
noncomputable def G43 : Env := Env.add 43 H43 G42
theorem G43_ok : EnvOk Try.prog G43 := envAdd_ok H43_ok G42_ok

/-! want.Of -/
def F24 : FCfg := ⟨keepAt [(0, [1, 2]), (1, [1, 2, 9]), (2, [4]), (3, [5]), (4, [4])], loopAt [], []⟩
theorem S.wof_k {R : Type} (c : Cf) (m : Int) (k : AVal → List Blk → Option R) : fnEval tis F24 0 G43 Try.f24 [.agg (cfA c), .int .i64 m] [] k =
  (bif !S.may (Cf.mk (Cf.target c) (Cf.util c) (Cf.stable c) (Cf.panic c) (Cf.grain c) (Cf.threshold c) (Cf.up c) (Cf.down c) (Cf.min c) (Cf.max c) (Cf.initial c) (Cf.grace c) (Cf.delay c) (Cf.burst c) (Cf.limit c) (Cf.queue c) (Cf.timeout c) (Cf.ready c) (Cf.subset c) (Cf.sample c)) then
    k (.int .i64 0) ([])
  else
    (optK (S.per (Cf.mk (Cf.target c) (Cf.util c) (Cf.stable c) (Cf.panic c) (Cf.grain c) (Cf.threshold c) (Cf.up c) (Cf.down c) (Cf.min c) (Cf.max c) (Cf.initial c) (Cf.grace c) (Cf.delay c) (Cf.burst c) (Cf.limit c) (Cf.queue c) (Cf.timeout c) (Cf.ready c) (Cf.subset c) (Cf.sample c))) fun o3 =>
      (optK (S.mup m o3) fun o4 =>
        k (.int .i64 (S.wnum (Prod.fst o4) 0)) ([])))) := by kernel_rfl
noncomputable def S.wof (c : Cf) (m : Int) : Option (Int) :=
  bif !S.may (Cf.mk (Cf.target c) (Cf.util c) (Cf.stable c) (Cf.panic c) (Cf.grain c) (Cf.threshold c) (Cf.up c) (Cf.down c) (Cf.min c) (Cf.max c) (Cf.initial c) (Cf.grace c) (Cf.delay c) (Cf.burst c) (Cf.limit c) (Cf.queue c) (Cf.timeout c) (Cf.ready c) (Cf.subset c) (Cf.sample c)) then
    some (0)
  else
    (optK (S.per (Cf.mk (Cf.target c) (Cf.util c) (Cf.stable c) (Cf.panic c) (Cf.grain c) (Cf.threshold c) (Cf.up c) (Cf.down c) (Cf.min c) (Cf.max c) (Cf.initial c) (Cf.grace c) (Cf.delay c) (Cf.burst c) (Cf.limit c) (Cf.queue c) (Cf.timeout c) (Cf.ready c) (Cf.subset c) (Cf.sample c))) fun o3 =>
      (optK (S.mup m o3) fun o4 =>
        some (S.wnum (Prod.fst o4) 0)))
theorem S.wof_v {R : Type} (c : Cf) (m : Int) (k : AVal → List Blk → Option R) : fnEval tis F24 0 G43 Try.f24 [.agg (cfA c), .int .i64 m] [] k = oK (fun v : Int => k (.int .i64 v) []) (S.wof c m) :=
  (S.wof_k c m k).trans (bif_lift (f := (oK (fun v : Int => k (.int .i64 v) []))) rfl (opt_lift fun o3 => (opt_lift fun o4 => rfl)))
noncomputable def H24 : Hnd := fun R args σ k => match args, σ with
  | [.agg [.int .i64 target_, .int .i64 util_, .int .i64 stable_, .int .i64 panic_, .int .i64 grain_, .int .i64 threshold_, .int .i64 up_, .int .i64 down_, .int .i64 min_, .int .i64 max_, .int .i64 initial_, .int .i64 grace_, .int .i64 delay_, .int .i64 burst_, .int .i64 limit_, .int .i64 queue_, .int .i64 timeout_, .int .i64 ready_, .int .i64 subset_, .int .i64 sample_], .int .i64 m], [] => oK (fun v : Int => k (.int .i64 v) []) (S.wof ⟨target_, util_, stable_, panic_, grain_, threshold_, up_, down_, min_, max_, initial_, grace_, delay_, burst_, limit_, queue_, timeout_, ready_, subset_, sample_⟩ m)
  | _, _ => none
theorem H24_ok : HndOk Try.prog 24 H24 := hnd_ok tis tisOk mixOk G43_ok F24 Try.func24 rfl (by
  intro R args σ k r h
  unfold H24 at h
  split at h
  · rename_i target_ util_ stable_ panic_ grain_ threshold_ up_ down_ min_ max_ initial_ grace_ delay_ burst_ limit_ queue_ timeout_ ready_ subset_ sample_ m; exact ⟨0, (S.wof_v ⟨target_, util_, stable_, panic_, grain_, threshold_, up_, down_, min_, max_, initial_, grace_, delay_, burst_, limit_, queue_, timeout_, ready_, subset_, sample_⟩ m _).trans h⟩
  · cases h)
noncomputable def G24 : Env := Env.add 24 H24 G43
theorem G24_ok : EnvOk Try.prog G24 := envAdd_ok H24_ok G43_ok

/-! want.Over -/
def F26 : FCfg := ⟨keepAt [(0, [1, 2, 3]), (1, [6])], loopAt [], []⟩
theorem S.wover_k {R : Type} (c : Cf) (w r : Int) (k : AVal → List Blk → Option R) : fnEval tis F26 0 G24 Try.f26 [.agg (cfA c), .int .i64 w, .int .i64 r] [] k =
  (bif S.may (Cf.mk (Cf.target c) (Cf.util c) (Cf.stable c) (Cf.panic c) (Cf.grain c) (Cf.threshold c) (Cf.up c) (Cf.down c) (Cf.min c) (Cf.max c) (Cf.initial c) (Cf.grace c) (Cf.delay c) (Cf.burst c) (Cf.limit c) (Cf.queue c) (Cf.timeout c) (Cf.ready c) (Cf.subset c) (Cf.sample c)) then
    k (.bool (decide (Go.IntKind.wrap .i64 (Cf.threshold c * S.wnum1 r 1) ≤ Go.IntKind.wrap .i64 (S.wnum1 w 0 * 1000)))) ([])
  else
    k (.bool false) ([])) := by kernel_rfl
noncomputable def S.wover (c : Cf) (w r : Int) : Bool :=
  bif S.may (Cf.mk (Cf.target c) (Cf.util c) (Cf.stable c) (Cf.panic c) (Cf.grain c) (Cf.threshold c) (Cf.up c) (Cf.down c) (Cf.min c) (Cf.max c) (Cf.initial c) (Cf.grace c) (Cf.delay c) (Cf.burst c) (Cf.limit c) (Cf.queue c) (Cf.timeout c) (Cf.ready c) (Cf.subset c) (Cf.sample c)) then
    (decide (Go.IntKind.wrap .i64 (Cf.threshold c * S.wnum1 r 1) ≤ Go.IntKind.wrap .i64 (S.wnum1 w 0 * 1000)))
  else
    (false)
theorem S.wover_v {R : Type} (c : Cf) (w r : Int) (k : AVal → List Blk → Option R) : fnEval tis F26 0 G24 Try.f26 [.agg (cfA c), .int .i64 w, .int .i64 r] [] k = k (.bool (S.wover c w r)) [] :=
  (S.wover_k c w r k).trans (bif_lift (f := (fun v : Bool => k (.bool v) [])) rfl rfl)
noncomputable def H26 : Hnd := fun R args σ k => match args, σ with
  | [.agg [.int .i64 target_, .int .i64 util_, .int .i64 stable_, .int .i64 panic_, .int .i64 grain_, .int .i64 threshold_, .int .i64 up_, .int .i64 down_, .int .i64 min_, .int .i64 max_, .int .i64 initial_, .int .i64 grace_, .int .i64 delay_, .int .i64 burst_, .int .i64 limit_, .int .i64 queue_, .int .i64 timeout_, .int .i64 ready_, .int .i64 subset_, .int .i64 sample_], .int .i64 w, .int .i64 r], [] => k (.bool (S.wover ⟨target_, util_, stable_, panic_, grain_, threshold_, up_, down_, min_, max_, initial_, grace_, delay_, burst_, limit_, queue_, timeout_, ready_, subset_, sample_⟩ w r)) []
  | _, _ => none
theorem H26_ok : HndOk Try.prog 26 H26 := hnd_ok tis tisOk mixOk G24_ok F26 Try.func26 rfl (by
  intro R args σ k r h
  unfold H26 at h
  split at h
  · rename_i target_ util_ stable_ panic_ grain_ threshold_ up_ down_ min_ max_ initial_ grace_ delay_ burst_ limit_ queue_ timeout_ ready_ subset_ sample_ w r; exact ⟨0, (S.wover_v ⟨target_, util_, stable_, panic_, grain_, threshold_, up_, down_, min_, max_, initial_, grace_, delay_, burst_, limit_, queue_, timeout_, ready_, subset_, sample_⟩ w r _).trans h⟩
  · cases h)
noncomputable def G26 : Env := Env.add 26 H26 G24
theorem G26_ok : EnvOk Try.prog G26 := envAdd_ok H26_ok G24_ok

/-! spinnakerref1.Per -/
def F29 : FCfg := ⟨keepAt [(0, [1]), (1, [3]), (2, [2])], loopAt [], []⟩
theorem S.rper_k {R : Type} (c : Cf) (k : AVal → List Blk → Option R) : fnEval tis F29 0 G26 Try.f29 [.agg (cfA c)] [] k =
  (k (.int .i64 (if 1 > Prod.fst (S.rmul (Cf.target c) (Cf.util c)) then 1 else Prod.fst (S.rmul (Cf.target c) (Cf.util c)))) ([])) := by kernel_rfl
noncomputable def S.rper (c : Cf) : Int :=
  (if 1 > Prod.fst (S.rmul (Cf.target c) (Cf.util c)) then 1 else Prod.fst (S.rmul (Cf.target c) (Cf.util c)))
theorem S.rper_v {R : Type} (c : Cf) (k : AVal → List Blk → Option R) : fnEval tis F29 0 G26 Try.f29 [.agg (cfA c)] [] k = k (.int .i64 (S.rper c)) [] :=
  (S.rper_k c k).trans rfl
noncomputable def H29 : Hnd := fun R args σ k => match args, σ with
  | [.agg [.int .i64 target_, .int .i64 util_, .int .i64 stable_, .int .i64 panic_, .int .i64 grain_, .int .i64 threshold_, .int .i64 up_, .int .i64 down_, .int .i64 min_, .int .i64 max_, .int .i64 initial_, .int .i64 grace_, .int .i64 delay_, .int .i64 burst_, .int .i64 limit_, .int .i64 queue_, .int .i64 timeout_, .int .i64 ready_, .int .i64 subset_, .int .i64 sample_]], [] => k (.int .i64 (S.rper ⟨target_, util_, stable_, panic_, grain_, threshold_, up_, down_, min_, max_, initial_, grace_, delay_, burst_, limit_, queue_, timeout_, ready_, subset_, sample_⟩)) []
  | _, _ => none
theorem H29_ok : HndOk Try.prog 29 H29 := hnd_ok tis tisOk mixOk G26_ok F29 Try.func29 rfl (by
  intro R args σ k r h
  unfold H29 at h
  split at h
  · rename_i target_ util_ stable_ panic_ grain_ threshold_ up_ down_ min_ max_ initial_ grace_ delay_ burst_ limit_ queue_ timeout_ ready_ subset_ sample_; exact ⟨0, (S.rper_v ⟨target_, util_, stable_, panic_, grain_, threshold_, up_, down_, min_, max_, initial_, grace_, delay_, burst_, limit_, queue_, timeout_, ready_, subset_, sample_⟩ _).trans h⟩
  · cases h)
noncomputable def G29 : Env := Env.add 29 H29 G26
theorem G29_ok : EnvOk Try.prog G29 := envAdd_ok H29_ok G26_ok

/-! spinnakerref12.Of -/
def F25 : FCfg := ⟨keepAt [(0, [1, 2]), (1, [1, 2, 9]), (2, [4]), (3, [5]), (4, [4])], loopAt [], []⟩
theorem S.rof_k {R : Type} (c : Cf) (m : Int) (k : AVal → List Blk → Option R) : fnEval tis F25 0 G29 Try.f25 [.agg (cfA c), .int .i64 m] [] k =
  (bif !S.rmay (Cf.mk (Cf.target c) (Cf.util c) (Cf.stable c) (Cf.panic c) (Cf.grain c) (Cf.threshold c) (Cf.up c) (Cf.down c) (Cf.min c) (Cf.max c) (Cf.initial c) (Cf.grace c) (Cf.delay c) (Cf.burst c) (Cf.limit c) (Cf.queue c) (Cf.timeout c) (Cf.ready c) (Cf.subset c) (Cf.sample c)) then
    k (.int .i64 0) ([])
  else
    (optK (S.rup m (S.rper (Cf.mk (Cf.target c) (Cf.util c) (Cf.stable c) (Cf.panic c) (Cf.grain c) (Cf.threshold c) (Cf.up c) (Cf.down c) (Cf.min c) (Cf.max c) (Cf.initial c) (Cf.grace c) (Cf.delay c) (Cf.burst c) (Cf.limit c) (Cf.queue c) (Cf.timeout c) (Cf.ready c) (Cf.subset c) (Cf.sample c)))) fun o3 =>
      k (.int .i64 (S.rclamp (Prod.fst o3) 0 1000000)) ([]))) := by kernel_rfl
noncomputable def S.rof (c : Cf) (m : Int) : Option (Int) :=
  bif !S.rmay (Cf.mk (Cf.target c) (Cf.util c) (Cf.stable c) (Cf.panic c) (Cf.grain c) (Cf.threshold c) (Cf.up c) (Cf.down c) (Cf.min c) (Cf.max c) (Cf.initial c) (Cf.grace c) (Cf.delay c) (Cf.burst c) (Cf.limit c) (Cf.queue c) (Cf.timeout c) (Cf.ready c) (Cf.subset c) (Cf.sample c)) then
    some (0)
  else
    (optK (S.rup m (S.rper (Cf.mk (Cf.target c) (Cf.util c) (Cf.stable c) (Cf.panic c) (Cf.grain c) (Cf.threshold c) (Cf.up c) (Cf.down c) (Cf.min c) (Cf.max c) (Cf.initial c) (Cf.grace c) (Cf.delay c) (Cf.burst c) (Cf.limit c) (Cf.queue c) (Cf.timeout c) (Cf.ready c) (Cf.subset c) (Cf.sample c)))) fun o3 =>
      some (S.rclamp (Prod.fst o3) 0 1000000))
theorem S.rof_v {R : Type} (c : Cf) (m : Int) (k : AVal → List Blk → Option R) : fnEval tis F25 0 G29 Try.f25 [.agg (cfA c), .int .i64 m] [] k = oK (fun v : Int => k (.int .i64 v) []) (S.rof c m) :=
  (S.rof_k c m k).trans (bif_lift (f := (oK (fun v : Int => k (.int .i64 v) []))) rfl (opt_lift fun o3 => rfl))
noncomputable def H25 : Hnd := fun R args σ k => match args, σ with
  | [.agg [.int .i64 target_, .int .i64 util_, .int .i64 stable_, .int .i64 panic_, .int .i64 grain_, .int .i64 threshold_, .int .i64 up_, .int .i64 down_, .int .i64 min_, .int .i64 max_, .int .i64 initial_, .int .i64 grace_, .int .i64 delay_, .int .i64 burst_, .int .i64 limit_, .int .i64 queue_, .int .i64 timeout_, .int .i64 ready_, .int .i64 subset_, .int .i64 sample_], .int .i64 m], [] => oK (fun v : Int => k (.int .i64 v) []) (S.rof ⟨target_, util_, stable_, panic_, grain_, threshold_, up_, down_, min_, max_, initial_, grace_, delay_, burst_, limit_, queue_, timeout_, ready_, subset_, sample_⟩ m)
  | _, _ => none
theorem H25_ok : HndOk Try.prog 25 H25 := hnd_ok tis tisOk mixOk G29_ok F25 Try.func25 rfl (by
  intro R args σ k r h
  unfold H25 at h
  split at h
  · rename_i target_ util_ stable_ panic_ grain_ threshold_ up_ down_ min_ max_ initial_ grace_ delay_ burst_ limit_ queue_ timeout_ ready_ subset_ sample_ m; exact ⟨0, (S.rof_v ⟨target_, util_, stable_, panic_, grain_, threshold_, up_, down_, min_, max_, initial_, grace_, delay_, burst_, limit_, queue_, timeout_, ready_, subset_, sample_⟩ m _).trans h⟩
  · cases h)
noncomputable def G25 : Env := Env.add 25 H25 G29
theorem G25_ok : EnvOk Try.prog G25 := envAdd_ok H25_ok G29_ok

/-! spinnakerref12.cut -/
def F46 : FCfg := ⟨keepAt [(0, [0, 1]), (1, [4])], loopAt [], []⟩
theorem S.rcut_k {R : Type} (n lo : Int) (k : AVal → List Blk → Option R) : fnEval tis F46 0 G25 Try.f46 [.int .i64 n, .int .i64 lo] [] k =
  (k (.int .i64 (if 1000000 < if lo > n then lo else n then 1000000 else if lo > n then lo else n)) ([])) := by kernel_rfl
noncomputable def S.rcut (n lo : Int) : Int :=
  (if 1000000 < if lo > n then lo else n then 1000000 else if lo > n then lo else n)
theorem S.rcut_v {R : Type} (n lo : Int) (k : AVal → List Blk → Option R) : fnEval tis F46 0 G25 Try.f46 [.int .i64 n, .int .i64 lo] [] k = k (.int .i64 (S.rcut n lo)) [] :=
  (S.rcut_k n lo k).trans rfl
noncomputable def H46 : Hnd := fun R args σ k => match args, σ with
  | [.int .i64 n, .int .i64 lo], [] => k (.int .i64 (S.rcut n lo)) []
  | _, _ => none
theorem H46_ok : HndOk Try.prog 46 H46 := hnd_ok tis tisOk mixOk G25_ok F46 Try.func46 rfl (by
  intro R args σ k r h
  unfold H46 at h
  split at h
  · rename_i n lo; exact ⟨0, (S.rcut_v n lo _).trans h⟩
  · cases h)
noncomputable def G46 : Env := Env.add 46 H46 G25
theorem G46_ok : EnvOk Try.prog G46 := envAdd_ok H46_ok G25_ok

/-! spinnakerref12.Over -/
def F27 : FCfg := ⟨keepAt [(0, [1, 2, 3]), (1, [6])], loopAt [], []⟩
theorem S.rover_k {R : Type} (c : Cf) (w r : Int) (k : AVal → List Blk → Option R) : fnEval tis F27 0 G46 Try.f27 [.agg (cfA c), .int .i64 w, .int .i64 r] [] k =
  (bif S.rmay (Cf.mk (Cf.target c) (Cf.util c) (Cf.stable c) (Cf.panic c) (Cf.grain c) (Cf.threshold c) (Cf.up c) (Cf.down c) (Cf.min c) (Cf.max c) (Cf.initial c) (Cf.grace c) (Cf.delay c) (Cf.burst c) (Cf.limit c) (Cf.queue c) (Cf.timeout c) (Cf.ready c) (Cf.subset c) (Cf.sample c)) then
    k (.bool (decide (Go.IntKind.wrap .i64 (Cf.threshold c * S.rcut r 1) ≤ Go.IntKind.wrap .i64 (S.rcut w 0 * 1000)))) ([])
  else
    k (.bool false) ([])) := by kernel_rfl
noncomputable def S.rover (c : Cf) (w r : Int) : Bool :=
  bif S.rmay (Cf.mk (Cf.target c) (Cf.util c) (Cf.stable c) (Cf.panic c) (Cf.grain c) (Cf.threshold c) (Cf.up c) (Cf.down c) (Cf.min c) (Cf.max c) (Cf.initial c) (Cf.grace c) (Cf.delay c) (Cf.burst c) (Cf.limit c) (Cf.queue c) (Cf.timeout c) (Cf.ready c) (Cf.subset c) (Cf.sample c)) then
    (decide (Go.IntKind.wrap .i64 (Cf.threshold c * S.rcut r 1) ≤ Go.IntKind.wrap .i64 (S.rcut w 0 * 1000)))
  else
    (false)
theorem S.rover_v {R : Type} (c : Cf) (w r : Int) (k : AVal → List Blk → Option R) : fnEval tis F27 0 G46 Try.f27 [.agg (cfA c), .int .i64 w, .int .i64 r] [] k = k (.bool (S.rover c w r)) [] :=
  (S.rover_k c w r k).trans (bif_lift (f := (fun v : Bool => k (.bool v) [])) rfl rfl)
noncomputable def H27 : Hnd := fun R args σ k => match args, σ with
  | [.agg [.int .i64 target_, .int .i64 util_, .int .i64 stable_, .int .i64 panic_, .int .i64 grain_, .int .i64 threshold_, .int .i64 up_, .int .i64 down_, .int .i64 min_, .int .i64 max_, .int .i64 initial_, .int .i64 grace_, .int .i64 delay_, .int .i64 burst_, .int .i64 limit_, .int .i64 queue_, .int .i64 timeout_, .int .i64 ready_, .int .i64 subset_, .int .i64 sample_], .int .i64 w, .int .i64 r], [] => k (.bool (S.rover ⟨target_, util_, stable_, panic_, grain_, threshold_, up_, down_, min_, max_, initial_, grace_, delay_, burst_, limit_, queue_, timeout_, ready_, subset_, sample_⟩ w r)) []
  | _, _ => none
theorem H27_ok : HndOk Try.prog 27 H27 := hnd_ok tis tisOk mixOk G46_ok F27 Try.func27 rfl (by
  intro R args σ k r h
  unfold H27 at h
  split at h
  · rename_i target_ util_ stable_ panic_ grain_ threshold_ up_ down_ min_ max_ initial_ grace_ delay_ burst_ limit_ queue_ timeout_ ready_ subset_ sample_ w r; exact ⟨0, (S.rover_v ⟨target_, util_, stable_, panic_, grain_, threshold_, up_, down_, min_, max_, initial_, grace_, delay_, burst_, limit_, queue_, timeout_, ready_, subset_, sample_⟩ w r _).trans h⟩
  · cases h)
noncomputable def G27 : Env := Env.add 27 H27 G46
theorem G27_ok : EnvOk Try.prog G27 := envAdd_ok H27_ok G46_ok

/-! spinnakerlaw12.told -/
def F23 : FCfg := ⟨keepAt [(0, []), (1, [1]), (2, [0])], loopAt [], []⟩
theorem S.told12_k {R : Type}  (k : AVal → List Blk → Option R) : fnEval tis F23 0 G27 Try.f23 [] [] k =
  (k (.bool true) ([])) := by kernel_rfl
noncomputable def S.told12  : Bool :=
  (true)
theorem S.told12_v {R : Type}  (k : AVal → List Blk → Option R) : fnEval tis F23 0 G27 Try.f23 [] [] k = k (.bool (S.told12)) [] :=
  (S.told12_k k).trans rfl
noncomputable def H23 : Hnd := fun R args σ k => match args, σ with
  | [], [] => k (.bool (S.told12)) []
  | _, _ => none
theorem H23_ok : HndOk Try.prog 23 H23 := hnd_ok tis tisOk mixOk G27_ok F23 Try.func23 rfl (by
  intro R args σ k r h
  unfold H23 at h
  split at h
  · exact ⟨0, (S.told12_v _).trans h⟩
  · cases h)
noncomputable def G23 : Env := Env.add 23 H23 G27
theorem G23_ok : EnvOk Try.prog G23 := envAdd_ok H23_ok G27_ok
end Go.Proofs.Ytdflpflffccmgaa.AB
