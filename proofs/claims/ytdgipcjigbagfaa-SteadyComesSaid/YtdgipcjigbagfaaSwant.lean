/- The functions of layers 12, 13, 14, 16, as plain functions. -/
import Derived.Test.YtdgipcjigbagfaaSrconf
namespace Go.Proofs.Ytdgipcjigbagfaa.AB
set_option linter.unusedVariables false

/-! want.number -/
def F64 : FCfg := ⟨keepAt [(0, [0, 1]), (1, [0, 1, 5, 6]), (2, [0, 1, 5, 13]), (3, [1, 5]), (4, [4])], loopAt [], []⟩
theorem S.wnum_k {R : Type} (n lo : Int) (k : AVal → List Blk → Option R) : fnEval tis F64 0 G33 Try.f64 [.iface 2 (.int .i64 n), .int .i64 lo] [] k =
  (k (.int .i64 (S.mclamp n lo 1000000)) ([])) := by kernel_rfl
noncomputable def S.wnum (n lo : Int) : Int :=
  (S.mclamp n lo 1000000)
theorem S.wnum_v {R : Type} (n lo : Int) (k : AVal → List Blk → Option R) : fnEval tis F64 0 G33 Try.f64 [.iface 2 (.int .i64 n), .int .i64 lo] [] k = k (.int .i64 (S.wnum n lo)) [] :=
  (S.wnum_k n lo k).trans rfl
theorem S.wnum1_k {R : Type} (n lo : Int) (k : AVal → List Blk → Option R) : fnEval tis F64 0 G33 Try.f64 [.iface 3 (.int .i64 n), .int .i64 lo] [] k =
  (k (.int .i64 (S.mclamp n lo 1000000)) ([])) := by kernel_rfl
noncomputable def S.wnum1 (n lo : Int) : Int :=
  (S.mclamp n lo 1000000)
theorem S.wnum1_v {R : Type} (n lo : Int) (k : AVal → List Blk → Option R) : fnEval tis F64 0 G33 Try.f64 [.iface 3 (.int .i64 n), .int .i64 lo] [] k = k (.int .i64 (S.wnum1 n lo)) [] :=
  (S.wnum1_k n lo k).trans rfl
noncomputable def H64 : Hnd := fun R args σ k => match args, σ with
  | [.iface 2 (.int .i64 n), .int .i64 lo], [] => k (.int .i64 (S.wnum n lo)) []
  | [.iface 3 (.int .i64 n), .int .i64 lo], [] => k (.int .i64 (S.wnum1 n lo)) []
  | _, _ => none
theorem H64_ok : HndOk Try.prog 64 H64 := hnd_ok tis tisOk mixOk G33_ok F64 Try.func64 rfl (by
  intro R args σ k r h
  unfold H64 at h
  split at h
  · rename_i n lo; exact ⟨0, (S.wnum_v n lo _).trans h⟩
  · rename_i n lo; exact ⟨0, (S.wnum1_v n lo _).trans h⟩
  · cases h)
noncomputable def G64 : Env := Env.add 64 H64 G33
theorem G64_ok : EnvOk Try.prog G64 := envAdd_ok H64_ok G33_ok

/-! want.Of -/
def F32 : FCfg := ⟨keepAt [(0, [1, 2]), (1, [1, 2, 9]), (2, [4]), (3, [5]), (4, [4])], loopAt [], []⟩
theorem S.wof_k {R : Type} (c : Cf) (m : Int) (k : AVal → List Blk → Option R) : fnEval tis F32 0 G64 Try.f32 [.agg (cfA c), .int .i64 m] [] k =
  (bif !S.may c then
   k (.int .i64 0) ([])
 else
   (optK (S.per c) fun o3 =>
   (optK (S.mup m o3) fun o4 =>
   k (.int .i64 (S.wnum o4.1 0)) ([])))) := by kernel_rfl
noncomputable def S.wof (c : Cf) (m : Int) : Option (Int) :=
  bif !S.may c then
   some (0)
 else
   (optK (S.per c) fun o3 =>
   (optK (S.mup m o3) fun o4 =>
   some (S.wnum o4.1 0)))
noncomputable def S.wof_gk {R : Type} (c : Cf) (m : Int) (k : AVal → List Blk → Option R) : (Int) → Option R := (fun v : Int => k (.int .i64 v) [])
theorem S.wof_v {R : Type} (c : Cf) (m : Int) (k : AVal → List Blk → Option R) : fnEval tis F32 0 G64 Try.f32 [.agg (cfA c), .int .i64 m] [] k = oK (fun v : Int => k (.int .i64 v) []) (S.wof c m) :=
  (S.wof_k c m k).trans (bif_lift (f := (oK (S.wof_gk c m k))) rfl (opt_lift fun o3 => (opt_lift fun o4 => rfl)))
noncomputable def H32 : Hnd := fun R args σ k => match args, σ with
  | [.agg [.int .i64 target_, .int .i64 util_, .int .i64 stable_, .int .i64 panic_, .int .i64 grain_, .int .i64 threshold_, .int .i64 up_, .int .i64 down_, .int .i64 min_, .int .i64 max_, .int .i64 initial_, .int .i64 grace_, .int .i64 delay_, .int .i64 burst_, .int .i64 limit_, .int .i64 queue_, .int .i64 timeout_, .int .i64 ready_, .int .i64 subset_, .int .i64 sample_], .int .i64 m], [] => oK (fun v : Int => k (.int .i64 v) []) (S.wof ⟨target_, util_, stable_, panic_, grain_, threshold_, up_, down_, min_, max_, initial_, grace_, delay_, burst_, limit_, queue_, timeout_, ready_, subset_, sample_⟩ m)
  | _, _ => none
theorem H32_ok : HndOk Try.prog 32 H32 := hnd_ok tis tisOk mixOk G64_ok F32 Try.func32 rfl (by
  intro R args σ k r h
  unfold H32 at h
  split at h
  · rename_i target_ util_ stable_ panic_ grain_ threshold_ up_ down_ min_ max_ initial_ grace_ delay_ burst_ limit_ queue_ timeout_ ready_ subset_ sample_ m; exact ⟨0, (S.wof_v ⟨target_, util_, stable_, panic_, grain_, threshold_, up_, down_, min_, max_, initial_, grace_, delay_, burst_, limit_, queue_, timeout_, ready_, subset_, sample_⟩ m _).trans h⟩
  · cases h)
noncomputable def G32 : Env := Env.add 32 H32 G64
theorem G32_ok : EnvOk Try.prog G32 := envAdd_ok H32_ok G64_ok

/-! want.Over -/
def F41 : FCfg := ⟨keepAt [(0, [1, 2, 3]), (1, [6])], loopAt [], []⟩
theorem S.wover_k {R : Type} (c : Cf) (w r : Int) (k : AVal → List Blk → Option R) : fnEval tis F41 0 G32 Try.f41 [.agg (cfA c), .int .i64 w, .int .i64 r] [] k =
  (bif S.may c then
   k (.bool (decide (Go.IntKind.wrap .i64 (c.threshold * S.wnum1 r 1) ≤ Go.IntKind.wrap .i64 (S.wnum1 w 0 * 1000)))) ([])
 else
   k (.bool false) ([])) := by kernel_rfl
noncomputable def S.wover (c : Cf) (w r : Int) : Bool :=
  bif S.may c then
   (decide (Go.IntKind.wrap .i64 (c.threshold * S.wnum1 r 1) ≤ Go.IntKind.wrap .i64 (S.wnum1 w 0 * 1000)))
 else
   (false)
noncomputable def S.wover_gk {R : Type} (c : Cf) (w r : Int) (k : AVal → List Blk → Option R) : (Bool) → Option R := (fun v : Bool => k (.bool v) [])
theorem S.wover_v {R : Type} (c : Cf) (w r : Int) (k : AVal → List Blk → Option R) : fnEval tis F41 0 G32 Try.f41 [.agg (cfA c), .int .i64 w, .int .i64 r] [] k = k (.bool (S.wover c w r)) [] :=
  (S.wover_k c w r k).trans (bif_lift (f := (S.wover_gk c w r k)) rfl rfl)
noncomputable def H41 : Hnd := fun R args σ k => match args, σ with
  | [.agg [.int .i64 target_, .int .i64 util_, .int .i64 stable_, .int .i64 panic_, .int .i64 grain_, .int .i64 threshold_, .int .i64 up_, .int .i64 down_, .int .i64 min_, .int .i64 max_, .int .i64 initial_, .int .i64 grace_, .int .i64 delay_, .int .i64 burst_, .int .i64 limit_, .int .i64 queue_, .int .i64 timeout_, .int .i64 ready_, .int .i64 subset_, .int .i64 sample_], .int .i64 w, .int .i64 r], [] => k (.bool (S.wover ⟨target_, util_, stable_, panic_, grain_, threshold_, up_, down_, min_, max_, initial_, grace_, delay_, burst_, limit_, queue_, timeout_, ready_, subset_, sample_⟩ w r)) []
  | _, _ => none
theorem H41_ok : HndOk Try.prog 41 H41 := hnd_ok tis tisOk mixOk G32_ok F41 Try.func41 rfl (by
  intro R args σ k r h
  unfold H41 at h
  split at h
  · rename_i target_ util_ stable_ panic_ grain_ threshold_ up_ down_ min_ max_ initial_ grace_ delay_ burst_ limit_ queue_ timeout_ ready_ subset_ sample_ w r; exact ⟨0, (S.wover_v ⟨target_, util_, stable_, panic_, grain_, threshold_, up_, down_, min_, max_, initial_, grace_, delay_, burst_, limit_, queue_, timeout_, ready_, subset_, sample_⟩ w r _).trans h⟩
  · cases h)
noncomputable def G41 : Env := Env.add 41 H41 G32
theorem G41_ok : EnvOk Try.prog G41 := envAdd_ok H41_ok G32_ok

/-! rate.there -/
def F88 : FCfg := ⟨keepAt [(0, [0, 1]), (1, [1, 5, 6]), (2, [1, 5, 13]), (3, [4]), (4, [4])], loopAt [], []⟩
theorem S.rthere_k {R : Type} (n lo : Int) (k : AVal → List Blk → Option R) : fnEval tis F88 0 G41 Try.f88 [.iface 3 (.int .i64 n), .int .i64 lo] [] k =
  (k (.int .i64 (if 1000000 < if lo > n then lo else n then 1000000 else if lo > n then lo else n)) ([])) := by kernel_rfl
noncomputable def S.rthere (n lo : Int) : Int :=
  (if 1000000 < if lo > n then lo else n then 1000000 else if lo > n then lo else n)
theorem S.rthere_v {R : Type} (n lo : Int) (k : AVal → List Blk → Option R) : fnEval tis F88 0 G41 Try.f88 [.iface 3 (.int .i64 n), .int .i64 lo] [] k = k (.int .i64 (S.rthere n lo)) [] :=
  (S.rthere_k n lo k).trans rfl
noncomputable def H88 : Hnd := fun R args σ k => match args, σ with
  | [.iface 3 (.int .i64 n), .int .i64 lo], [] => k (.int .i64 (S.rthere n lo)) []
  | _, _ => none
theorem H88_ok : HndOk Try.prog 88 H88 := hnd_ok tis tisOk mixOk G41_ok F88 Try.func88 rfl (by
  intro R args σ k r h
  unfold H88 at h
  split at h
  · rename_i n lo; exact ⟨0, (S.rthere_v n lo _).trans h⟩
  · cases h)
noncomputable def G88 : Env := Env.add 88 H88 G41
theorem G88_ok : EnvOk Try.prog G88 := envAdd_ok H88_ok G41_ok

/-! rate.Most -/
def F70 : FCfg := ⟨keepAt [(0, [1, 2]), (1, [1, 2, 9]), (2, [4]), (3, [5]), (4, [4])], loopAt [], []⟩
theorem S.most_k {R : Type} (c : Cf) (r : Int) (k : AVal → List Blk → Option R) : fnEval tis F70 0 G88 Try.f70 [.agg (cfA c), .int .i64 r] [] k =
  (bif !S.may c then
   k (.int .i64 0) ([])
 else
   (optK (S.mup (Go.IntKind.wrap .i64 (c.up * S.rthere r 1)) 1000) fun o3 =>
   k (.int .i64 (if 1000000 < o3.1 then 1000000 else o3.1)) ([]))) := by kernel_rfl
noncomputable def S.most (c : Cf) (r : Int) : Option (Int) :=
  bif !S.may c then
   some (0)
 else
   (optK (S.mup (Go.IntKind.wrap .i64 (c.up * S.rthere r 1)) 1000) fun o3 =>
   some (if 1000000 < o3.1 then 1000000 else o3.1))
noncomputable def S.most_gk {R : Type} (c : Cf) (r : Int) (k : AVal → List Blk → Option R) : (Int) → Option R := (fun v : Int => k (.int .i64 v) [])
theorem S.most_v {R : Type} (c : Cf) (r : Int) (k : AVal → List Blk → Option R) : fnEval tis F70 0 G88 Try.f70 [.agg (cfA c), .int .i64 r] [] k = oK (fun v : Int => k (.int .i64 v) []) (S.most c r) :=
  (S.most_k c r k).trans (bif_lift (f := (oK (S.most_gk c r k))) rfl (opt_lift fun o3 => rfl))
noncomputable def H70 : Hnd := fun R args σ k => match args, σ with
  | [.agg [.int .i64 target_, .int .i64 util_, .int .i64 stable_, .int .i64 panic_, .int .i64 grain_, .int .i64 threshold_, .int .i64 up_, .int .i64 down_, .int .i64 min_, .int .i64 max_, .int .i64 initial_, .int .i64 grace_, .int .i64 delay_, .int .i64 burst_, .int .i64 limit_, .int .i64 queue_, .int .i64 timeout_, .int .i64 ready_, .int .i64 subset_, .int .i64 sample_], .int .i64 r], [] => oK (fun v : Int => k (.int .i64 v) []) (S.most ⟨target_, util_, stable_, panic_, grain_, threshold_, up_, down_, min_, max_, initial_, grace_, delay_, burst_, limit_, queue_, timeout_, ready_, subset_, sample_⟩ r)
  | _, _ => none
theorem H70_ok : HndOk Try.prog 70 H70 := hnd_ok tis tisOk mixOk G88_ok F70 Try.func70 rfl (by
  intro R args σ k r h
  unfold H70 at h
  split at h
  · rename_i target_ util_ stable_ panic_ grain_ threshold_ up_ down_ min_ max_ initial_ grace_ delay_ burst_ limit_ queue_ timeout_ ready_ subset_ sample_ r; exact ⟨0, (S.most_v ⟨target_, util_, stable_, panic_, grain_, threshold_, up_, down_, min_, max_, initial_, grace_, delay_, burst_, limit_, queue_, timeout_, ready_, subset_, sample_⟩ r _).trans h⟩
  · cases h)
noncomputable def G70 : Env := Env.add 70 H70 G88
theorem G70_ok : EnvOk Try.prog G70 := envAdd_ok H70_ok G88_ok

/-! rate.Least -/
def F69 : FCfg := ⟨keepAt [(0, [1, 2]), (1, [1, 2, 9]), (2, [4]), (3, [5]), (4, [4])], loopAt [], []⟩
theorem S.least_k {R : Type} (c : Cf) (r : Int) (k : AVal → List Blk → Option R) : fnEval tis F69 0 G70 Try.f69 [.agg (cfA c), .int .i64 r] [] k =
  (bif !S.may c then
   k (.int .i64 0) ([])
 else
   (optK (S.mdown (Go.IntKind.wrap .i64 (1000 * S.rthere r 0)) c.down) fun o3 =>
   k (.int .i64 o3.1) ([]))) := by kernel_rfl
noncomputable def S.least (c : Cf) (r : Int) : Option (Int) :=
  bif !S.may c then
   some (0)
 else
   (optK (S.mdown (Go.IntKind.wrap .i64 (1000 * S.rthere r 0)) c.down) fun o3 =>
   some (o3.1))
noncomputable def S.least_gk {R : Type} (c : Cf) (r : Int) (k : AVal → List Blk → Option R) : (Int) → Option R := (fun v : Int => k (.int .i64 v) [])
theorem S.least_v {R : Type} (c : Cf) (r : Int) (k : AVal → List Blk → Option R) : fnEval tis F69 0 G70 Try.f69 [.agg (cfA c), .int .i64 r] [] k = oK (fun v : Int => k (.int .i64 v) []) (S.least c r) :=
  (S.least_k c r k).trans (bif_lift (f := (oK (S.least_gk c r k))) rfl (opt_lift fun o3 => rfl))
noncomputable def H69 : Hnd := fun R args σ k => match args, σ with
  | [.agg [.int .i64 target_, .int .i64 util_, .int .i64 stable_, .int .i64 panic_, .int .i64 grain_, .int .i64 threshold_, .int .i64 up_, .int .i64 down_, .int .i64 min_, .int .i64 max_, .int .i64 initial_, .int .i64 grace_, .int .i64 delay_, .int .i64 burst_, .int .i64 limit_, .int .i64 queue_, .int .i64 timeout_, .int .i64 ready_, .int .i64 subset_, .int .i64 sample_], .int .i64 r], [] => oK (fun v : Int => k (.int .i64 v) []) (S.least ⟨target_, util_, stable_, panic_, grain_, threshold_, up_, down_, min_, max_, initial_, grace_, delay_, burst_, limit_, queue_, timeout_, ready_, subset_, sample_⟩ r)
  | _, _ => none
theorem H69_ok : HndOk Try.prog 69 H69 := hnd_ok tis tisOk mixOk G70_ok F69 Try.func69 rfl (by
  intro R args σ k r h
  unfold H69 at h
  split at h
  · rename_i target_ util_ stable_ panic_ grain_ threshold_ up_ down_ min_ max_ initial_ grace_ delay_ burst_ limit_ queue_ timeout_ ready_ subset_ sample_ r; exact ⟨0, (S.least_v ⟨target_, util_, stable_, panic_, grain_, threshold_, up_, down_, min_, max_, initial_, grace_, delay_, burst_, limit_, queue_, timeout_, ready_, subset_, sample_⟩ r _).trans h⟩
  · cases h)
noncomputable def G69 : Env := Env.add 69 H69 G70
theorem G69_ok : EnvOk Try.prog G69 := envAdd_ok H69_ok G70_ok

/-! rate.Limit -/
def F42 : FCfg := ⟨keepAt [(0, [1, 2, 3]), (1, [1, 2, 3, 9]), (2, [6]), (3, [6])], loopAt [], []⟩
theorem S.limit_k {R : Type} (c : Cf) (w r : Int) (k : AVal → List Blk → Option R) : fnEval tis F42 0 G69 Try.f42 [.agg (cfA c), .int .i64 w, .int .i64 r] [] k =
  (bif !S.may c then
   k (.int .i64 0) ([])
 else
   (optK (S.least c r) fun o3 =>
   (optK (S.most c r) fun o4 =>
   k (.int .i64 (if o4 < if o3 > w then o3 else w then o4 else if o3 > w then o3 else w)) ([])))) := by kernel_rfl
noncomputable def S.limit (c : Cf) (w r : Int) : Option (Int) :=
  bif !S.may c then
   some (0)
 else
   (optK (S.least c r) fun o3 =>
   (optK (S.most c r) fun o4 =>
   some (if o4 < if o3 > w then o3 else w then o4 else if o3 > w then o3 else w)))
noncomputable def S.limit_gk {R : Type} (c : Cf) (w r : Int) (k : AVal → List Blk → Option R) : (Int) → Option R := (fun v : Int => k (.int .i64 v) [])
theorem S.limit_v {R : Type} (c : Cf) (w r : Int) (k : AVal → List Blk → Option R) : fnEval tis F42 0 G69 Try.f42 [.agg (cfA c), .int .i64 w, .int .i64 r] [] k = oK (fun v : Int => k (.int .i64 v) []) (S.limit c w r) :=
  (S.limit_k c w r k).trans (bif_lift (f := (oK (S.limit_gk c w r k))) rfl (opt_lift fun o3 => (opt_lift fun o4 => rfl)))
noncomputable def H42 : Hnd := fun R args σ k => match args, σ with
  | [.agg [.int .i64 target_, .int .i64 util_, .int .i64 stable_, .int .i64 panic_, .int .i64 grain_, .int .i64 threshold_, .int .i64 up_, .int .i64 down_, .int .i64 min_, .int .i64 max_, .int .i64 initial_, .int .i64 grace_, .int .i64 delay_, .int .i64 burst_, .int .i64 limit_, .int .i64 queue_, .int .i64 timeout_, .int .i64 ready_, .int .i64 subset_, .int .i64 sample_], .int .i64 w, .int .i64 r], [] => oK (fun v : Int => k (.int .i64 v) []) (S.limit ⟨target_, util_, stable_, panic_, grain_, threshold_, up_, down_, min_, max_, initial_, grace_, delay_, burst_, limit_, queue_, timeout_, ready_, subset_, sample_⟩ w r)
  | _, _ => none
theorem H42_ok : HndOk Try.prog 42 H42 := hnd_ok tis tisOk mixOk G69_ok F42 Try.func42 rfl (by
  intro R args σ k r h
  unfold H42 at h
  split at h
  · rename_i target_ util_ stable_ panic_ grain_ threshold_ up_ down_ min_ max_ initial_ grace_ delay_ burst_ limit_ queue_ timeout_ ready_ subset_ sample_ w r; exact ⟨0, (S.limit_v ⟨target_, util_, stable_, panic_, grain_, threshold_, up_, down_, min_, max_, initial_, grace_, delay_, burst_, limit_, queue_, timeout_, ready_, subset_, sample_⟩ w r _).trans h⟩
  · cases h)
noncomputable def G42 : Env := Env.add 42 H42 G69
theorem G42_ok : EnvOk Try.prog G42 := envAdd_ok H42_ok G69_ok

/-! alarm.panics -/
def F71 : FCfg := ⟨keepAt [(0, [0]), (1, [3, 4]), (2, [2])], loopAt [], []⟩
theorem S.panics_k {R : Type} (t m : Int) (k : AVal → List Blk → Option R) : fnEval tis F71 0 G42 Try.f71 [.iface 46 (.agg [.int .i64 t, .int .i64 m])] [] k =
  (k (.bool (decide (0 ≤ t))) ([])) := by kernel_rfl
noncomputable def S.panics (t m : Int) : Bool :=
  (decide (0 ≤ t))
theorem S.panics_v {R : Type} (t m : Int) (k : AVal → List Blk → Option R) : fnEval tis F71 0 G42 Try.f71 [.iface 46 (.agg [.int .i64 t, .int .i64 m])] [] k = k (.bool (S.panics t m)) [] :=
  (S.panics_k t m k).trans rfl
noncomputable def H71 : Hnd := fun R args σ k => match args, σ with
  | [.iface 46 (.agg [.int .i64 t, .int .i64 m])], [] => k (.bool (S.panics t m)) []
  | _, _ => none
theorem H71_ok : HndOk Try.prog 71 H71 := hnd_ok tis tisOk mixOk G42_ok F71 Try.func71 rfl (by
  intro R args σ k r h
  unfold H71 at h
  split at h
  · rename_i t m; exact ⟨0, (S.panics_v t m _).trans h⟩
  · cases h)
noncomputable def G71 : Env := Env.add 71 H71 G42
theorem G71_ok : EnvOk Try.prog G71 := envAdd_ok H71_ok G42_ok

/-! alarm.Is -/
def F43 : FCfg := ⟨keepAt [(0, [1]), (1, [2])], loopAt [], []⟩
theorem S.is_k {R : Type} (t m : Int) (k : AVal → List Blk → Option R) : fnEval tis F43 0 G71 Try.f43 [.agg [.int .i64 t, .int .i64 m]] [] k =
  (k (.bool (S.panics t m)) ([])) := by kernel_rfl
noncomputable def S.is (t m : Int) : Bool :=
  (S.panics t m)
theorem S.is_v {R : Type} (t m : Int) (k : AVal → List Blk → Option R) : fnEval tis F43 0 G71 Try.f43 [.agg [.int .i64 t, .int .i64 m]] [] k = k (.bool (S.is t m)) [] :=
  (S.is_k t m k).trans rfl
noncomputable def H43 : Hnd := fun R args σ k => match args, σ with
  | [.agg [.int .i64 t, .int .i64 m]], [] => k (.bool (S.is t m)) []
  | _, _ => none
theorem H43_ok : HndOk Try.prog 43 H43 := hnd_ok tis tisOk mixOk G71_ok F43 Try.func43 rfl (by
  intro R args σ k r h
  unfold H43 at h
  split at h
  · rename_i t m; exact ⟨0, (S.is_v t m _).trans h⟩
  · cases h)
noncomputable def G43 : Env := Env.add 43 H43 G71
theorem G43_ok : EnvOk Try.prog G43 := envAdd_ok H43_ok G71_ok

/-! alarm.Keep -/
def F46 : FCfg := ⟨keepAt [(0, [1, 2, 4]), (1, [1, 2, 4, 8]), (2, [4, 5]), (3, [2, 4]), (4, [4, 5])], loopAt [], []⟩
theorem S.keep_k {R : Type} (t m w : Int) (k : AVal → List Blk → Option R) : fnEval tis F46 0 G43 Try.f46 [.agg [.int .i64 t, .int .i64 m], .int .i64 w] [] k =
  (bif !S.is t m then
   k (.tuple [.agg [.int .i64 t, .int .i64 m], .int .i64 w]) ([])
 else
   k (.tuple [.agg [.int .i64 t, .int .i64 (if w > m then w else m)], .int .i64 (if w > m then w else m)]) ([])) := by kernel_rfl
noncomputable def S.keep (t m w : Int) : Int × Int × Int :=
  bif !S.is t m then
   (t, m, w)
 else
   (t, if w > m then w else m, if w > m then w else m)
noncomputable def S.keep_gk {R : Type} (t m w : Int) (k : AVal → List Blk → Option R) : (Int × Int × Int) → Option R := (fun v : Int × Int × Int => k (.tuple [(.agg [(.int .i64 v.1), (.int .i64 v.2.1)]), (.int .i64 v.2.2)]) [])
theorem S.keep_v {R : Type} (t m w : Int) (k : AVal → List Blk → Option R) : fnEval tis F46 0 G43 Try.f46 [.agg [.int .i64 t, .int .i64 m], .int .i64 w] [] k = k (.tuple [(.agg [(.int .i64 (S.keep t m w).1), (.int .i64 (S.keep t m w).2.1)]), (.int .i64 (S.keep t m w).2.2)]) [] :=
  (S.keep_k t m w k).trans (bif_lift (f := (S.keep_gk t m w k)) rfl rfl)
noncomputable def H46 : Hnd := fun R args σ k => match args, σ with
  | [.agg [.int .i64 t, .int .i64 m], .int .i64 w], [] => k (.tuple [(.agg [(.int .i64 (S.keep t m w).1), (.int .i64 (S.keep t m w).2.1)]), (.int .i64 (S.keep t m w).2.2)]) []
  | _, _ => none
theorem H46_ok : HndOk Try.prog 46 H46 := hnd_ok tis tisOk mixOk G43_ok F46 Try.func46 rfl (by
  intro R args σ k r h
  unfold H46 at h
  split at h
  · rename_i t m w; exact ⟨0, (S.keep_v t m w _).trans h⟩
  · cases h)
noncomputable def G46 : Env := Env.add 46 H46 G43
theorem G46_ok : EnvOk Try.prog G46 := envAdd_ok H46_ok G43_ok

/-! alarm.Calm -/
def F36 : FCfg := ⟨keepAt [(0, [0]), (1, [0])], loopAt [], []⟩
theorem S.calm_k {R : Type}  (k : AVal → List Blk → Option R) : fnEval tis F36 0 G46 Try.f36 [] [] k =
  (k (.agg [.int .i64 (-1), .int .i64 0]) ([])) := by kernel_rfl
noncomputable def S.calm  : Int × Int :=
  (-1, 0)
theorem S.calm_v {R : Type}  (k : AVal → List Blk → Option R) : fnEval tis F36 0 G46 Try.f36 [] [] k = k (.agg [(.int .i64 (S.calm).1), (.int .i64 (S.calm).2)]) [] :=
  (S.calm_k k).trans rfl
noncomputable def H36 : Hnd := fun R args σ k => match args, σ with
  | [], [] => k (.agg [(.int .i64 (S.calm).1), (.int .i64 (S.calm).2)]) []
  | _, _ => none
theorem H36_ok : HndOk Try.prog 36 H36 := hnd_ok tis tisOk mixOk G46_ok F36 Try.func36 rfl (by
  intro R args σ k r h
  unfold H36 at h
  split at h
  · exact ⟨0, (S.calm_v _).trans h⟩
  · cases h)
noncomputable def G36 : Env := Env.add 36 H36 G46
theorem G36_ok : EnvOk Try.prog G36 := envAdd_ok H36_ok G46_ok

/-! alarm.Next -/
def F40 : FCfg := ⟨keepAt [(0, [2, 3, 4, 5, 8]), (1, [2, 3, 4, 5, 8, 9]), (2, [8]), (3, [2, 3, 4, 5, 8, 22]), (4, [5, 8]), (5, [8]), (6, [2, 4, 5, 8, 31]), (7, [8]), (8, [5, 8, 35]), (9, [8]), (10, [8])], loopAt [], []⟩
theorem S.next_k {R : Type} (c : Cf) (t m now : Int) (over : Bool) (k : AVal → List Blk → Option R) : fnEval tis F40 0 G36 Try.f40 [.agg (cfA c), .agg [.int .i64 t, .int .i64 m], .int .i64 now, .bool over] [] k =
  (bif !S.may c then
   k (.agg [.int .i64 t, .int .i64 m]) ([])
 else
   bif decide (now < 0) then
   k (.agg [.int .i64 t, .int .i64 m]) ([])
 else
   bif decide (1099511627776 < now) then
   k (.agg [.int .i64 t, .int .i64 m]) ([])
 else
   bif over then
   bif S.is t m then
   k (.agg [.int .i64 now, .int .i64 m]) ([])
 else
   bif over then
   k (.agg [.int .i64 now, .int .i64 0]) ([])
 else
   bif S.is t m then
   bif decide (c.stable ≤ Go.IntKind.wrap .i64 (now - t)) then
   k (.agg [.int .i64 (-1), .int .i64 0]) ([])
 else
   k (.agg [.int .i64 t, .int .i64 m]) ([])
 else
   k (.agg [.int .i64 t, .int .i64 m]) ([])
 else
   bif over then
   k (.agg [.int .i64 now, .int .i64 0]) ([])
 else
   bif S.is t m then
   bif decide (c.stable ≤ Go.IntKind.wrap .i64 (now - t)) then
   k (.agg [.int .i64 (-1), .int .i64 0]) ([])
 else
   k (.agg [.int .i64 t, .int .i64 m]) ([])
 else
   k (.agg [.int .i64 t, .int .i64 m]) ([])) := by kernel_rfl
noncomputable def S.next (c : Cf) (t m now : Int) (over : Bool) : Int × Int :=
  bif !S.may c then
   (t, m)
 else
   bif decide (now < 0) then
   (t, m)
 else
   bif decide (1099511627776 < now) then
   (t, m)
 else
   bif over then
   bif S.is t m then
   (now, m)
 else
   bif over then
   (now, 0)
 else
   bif S.is t m then
   bif decide (c.stable ≤ Go.IntKind.wrap .i64 (now - t)) then
   (-1, 0)
 else
   (t, m)
 else
   (t, m)
 else
   bif over then
   (now, 0)
 else
   bif S.is t m then
   bif decide (c.stable ≤ Go.IntKind.wrap .i64 (now - t)) then
   (-1, 0)
 else
   (t, m)
 else
   (t, m)
noncomputable def S.next_gk {R : Type} (c : Cf) (t m now : Int) (over : Bool) (k : AVal → List Blk → Option R) : (Int × Int) → Option R := (fun v : Int × Int => k (.agg [(.int .i64 v.1), (.int .i64 v.2)]) [])
theorem S.next_v {R : Type} (c : Cf) (t m now : Int) (over : Bool) (k : AVal → List Blk → Option R) : fnEval tis F40 0 G36 Try.f40 [.agg (cfA c), .agg [.int .i64 t, .int .i64 m], .int .i64 now, .bool over] [] k = k (.agg [(.int .i64 (S.next c t m now over).1), (.int .i64 (S.next c t m now over).2)]) [] :=
  (S.next_k c t m now over k).trans (bif_lift (f := (S.next_gk c t m now over k)) rfl (bif_lift (f := (S.next_gk c t m now over k)) rfl (bif_lift (f := (S.next_gk c t m now over k)) rfl (bif_lift (f := (S.next_gk c t m now over k)) (bif_lift (f := (S.next_gk c t m now over k)) rfl (bif_lift (f := (S.next_gk c t m now over k)) rfl (bif_lift (f := (S.next_gk c t m now over k)) (bif_lift (f := (S.next_gk c t m now over k)) rfl rfl) rfl))) (bif_lift (f := (S.next_gk c t m now over k)) rfl (bif_lift (f := (S.next_gk c t m now over k)) (bif_lift (f := (S.next_gk c t m now over k)) rfl rfl) rfl))))))
noncomputable def H40 : Hnd := fun R args σ k => match args, σ with
  | [.agg [.int .i64 target_, .int .i64 util_, .int .i64 stable_, .int .i64 panic_, .int .i64 grain_, .int .i64 threshold_, .int .i64 up_, .int .i64 down_, .int .i64 min_, .int .i64 max_, .int .i64 initial_, .int .i64 grace_, .int .i64 delay_, .int .i64 burst_, .int .i64 limit_, .int .i64 queue_, .int .i64 timeout_, .int .i64 ready_, .int .i64 subset_, .int .i64 sample_], .agg [.int .i64 t, .int .i64 m], .int .i64 now, .bool over], [] => k (.agg [(.int .i64 (S.next ⟨target_, util_, stable_, panic_, grain_, threshold_, up_, down_, min_, max_, initial_, grace_, delay_, burst_, limit_, queue_, timeout_, ready_, subset_, sample_⟩ t m now over).1), (.int .i64 (S.next ⟨target_, util_, stable_, panic_, grain_, threshold_, up_, down_, min_, max_, initial_, grace_, delay_, burst_, limit_, queue_, timeout_, ready_, subset_, sample_⟩ t m now over).2)]) []
  | _, _ => none
theorem H40_ok : HndOk Try.prog 40 H40 := hnd_ok tis tisOk mixOk G36_ok F40 Try.func40 rfl (by
  intro R args σ k r h
  unfold H40 at h
  split at h
  · rename_i target_ util_ stable_ panic_ grain_ threshold_ up_ down_ min_ max_ initial_ grace_ delay_ burst_ limit_ queue_ timeout_ ready_ subset_ sample_ t m now over; exact ⟨0, (S.next_v ⟨target_, util_, stable_, panic_, grain_, threshold_, up_, down_, min_, max_, initial_, grace_, delay_, burst_, limit_, queue_, timeout_, ready_, subset_, sample_⟩ t m now over _).trans h⟩
  · cases h)
noncomputable def G40 : Env := Env.add 40 H40 G36
theorem G40_ok : EnvOk Try.prog G40 := envAdd_ok H40_ok G36_ok

/-! burst.there -/
def F75 : FCfg := ⟨keepAt [(0, [0]), (1, [3, 4]), (2, [3, 11]), (3, [2]), (4, [2])], loopAt [], []⟩
theorem S.bthere_k {R : Type} (n : Int) (k : AVal → List Blk → Option R) : fnEval tis F75 0 G40 Try.f75 [.iface 3 (.int .i64 n)] [] k =
  (k (.int .i64 (if 1000000 < if 0 > n then 0 else n then 1000000 else if 0 > n then 0 else n)) ([])) := by kernel_rfl
noncomputable def S.bthere (n : Int) : Int :=
  (if 1000000 < if 0 > n then 0 else n then 1000000 else if 0 > n then 0 else n)
theorem S.bthere_v {R : Type} (n : Int) (k : AVal → List Blk → Option R) : fnEval tis F75 0 G40 Try.f75 [.iface 3 (.int .i64 n)] [] k = k (.int .i64 (S.bthere n)) [] :=
  (S.bthere_k n k).trans rfl
noncomputable def H75 : Hnd := fun R args σ k => match args, σ with
  | [.iface 3 (.int .i64 n)], [] => k (.int .i64 (S.bthere n)) []
  | _, _ => none
theorem H75_ok : HndOk Try.prog 75 H75 := hnd_ok tis tisOk mixOk G40_ok F75 Try.func75 rfl (by
  intro R args σ k r h
  unfold H75 at h
  split at h
  · rename_i n; exact ⟨0, (S.bthere_v n _).trans h⟩
  · cases h)
noncomputable def G75 : Env := Env.add 75 H75 G40
theorem G75_ok : EnvOk Try.prog G75 := envAdd_ok H75_ok G40_ok

/-! burst.Excess -/
def F48 : FCfg := ⟨keepAt [(0, [1, 2, 3]), (1, [1, 2, 3, 9]), (2, [6]), (3, [1, 2, 3, 13]), (4, [6]), (5, [3, 7]), (6, [7]), (7, [6])], loopAt [], []⟩
theorem S.excess_k {R : Type} (c : Cf) (r q : Int) (k : AVal → List Blk → Option R) : fnEval tis F48 0 G75 Try.f48 [.agg (cfA c), .int .i64 r, .int .i64 q] [] k =
  (bif !S.may c then
   k (.int .i64 0) ([])
 else
   bif decide (c.burst = -1000) then
   k (.int .i64 (-1000)) ([])
 else
   k (.int .i64 (Prod.fst (S.msub (Prod.fst (S.msub (Go.IntKind.wrap .i64 (Go.IntKind.wrap .i64 (S.bthere r * c.limit) * 1000)) q)) c.burst))) ([])) := by kernel_rfl
noncomputable def S.excess (c : Cf) (r q : Int) : Int :=
  bif !S.may c then
   (0)
 else
   bif decide (c.burst = -1000) then
   (-1000)
 else
   (Prod.fst (S.msub (Prod.fst (S.msub (Go.IntKind.wrap .i64 (Go.IntKind.wrap .i64 (S.bthere r * c.limit) * 1000)) q)) c.burst))
noncomputable def S.excess_gk {R : Type} (c : Cf) (r q : Int) (k : AVal → List Blk → Option R) : (Int) → Option R := (fun v : Int => k (.int .i64 v) [])
theorem S.excess_v {R : Type} (c : Cf) (r q : Int) (k : AVal → List Blk → Option R) : fnEval tis F48 0 G75 Try.f48 [.agg (cfA c), .int .i64 r, .int .i64 q] [] k = k (.int .i64 (S.excess c r q)) [] :=
  (S.excess_k c r q k).trans (bif_lift (f := (S.excess_gk c r q k)) rfl (bif_lift (f := (S.excess_gk c r q k)) rfl rfl))
noncomputable def H48 : Hnd := fun R args σ k => match args, σ with
  | [.agg [.int .i64 target_, .int .i64 util_, .int .i64 stable_, .int .i64 panic_, .int .i64 grain_, .int .i64 threshold_, .int .i64 up_, .int .i64 down_, .int .i64 min_, .int .i64 max_, .int .i64 initial_, .int .i64 grace_, .int .i64 delay_, .int .i64 burst_, .int .i64 limit_, .int .i64 queue_, .int .i64 timeout_, .int .i64 ready_, .int .i64 subset_, .int .i64 sample_], .int .i64 r, .int .i64 q], [] => k (.int .i64 (S.excess ⟨target_, util_, stable_, panic_, grain_, threshold_, up_, down_, min_, max_, initial_, grace_, delay_, burst_, limit_, queue_, timeout_, ready_, subset_, sample_⟩ r q)) []
  | _, _ => none
theorem H48_ok : HndOk Try.prog 48 H48 := hnd_ok tis tisOk mixOk G75_ok F48 Try.func48 rfl (by
  intro R args σ k r h
  unfold H48 at h
  split at h
  · rename_i target_ util_ stable_ panic_ grain_ threshold_ up_ down_ min_ max_ initial_ grace_ delay_ burst_ limit_ queue_ timeout_ ready_ subset_ sample_ r q; exact ⟨0, (S.excess_v ⟨target_, util_, stable_, panic_, grain_, threshold_, up_, down_, min_, max_, initial_, grace_, delay_, burst_, limit_, queue_, timeout_, ready_, subset_, sample_⟩ r q _).trans h⟩
  · cases h)
noncomputable def G48 : Env := Env.add 48 H48 G75
theorem G48_ok : EnvOk Try.prog G48 := envAdd_ok H48_ok G75_ok
end Go.Proofs.Ytdgipcjigbagfaa.AB
