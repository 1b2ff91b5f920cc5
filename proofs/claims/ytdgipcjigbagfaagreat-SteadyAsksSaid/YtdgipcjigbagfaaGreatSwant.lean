/- The functions of layers 12, 13, 14, 16, as plain functions. -/
import Derived.Test.YtdgipcjigbagfaaGreatSrconf
namespace Go.Proofs.YtdgipcjigbagfaaGreat.AB
set_option linter.unusedVariables false

/-! want.number -/
def F69 : FCfg := ⟨keepAt [(0, [0, 1]), (1, [0, 1, 5, 6]), (2, [0, 1, 5, 13]), (3, [1, 5]), (4, [4])], loopAt [], []⟩
noncomputable def S.wnum_L {R : Type} (n lo : Int) (k : AVal → List Blk → Option R) : Option R := fnEval tis F69 0 G29 Tryz.f69 [.iface 2 (.int .i64 n), .int .i64 lo] [] k
noncomputable def S.wnum (n lo : Int) : Int :=
  (S.mclamp n lo 1000000)
theorem S.wnum_v {R : Type} (n lo : Int) (k : AVal → List Blk → Option R) : S.wnum_L n lo k = k (.int .i64 (S.wnum n lo)) [] :=
  Eq.trans (b := (k (.int .i64 (S.mclamp n lo 1000000)) ([]))) (by kernel_rfl) rfl
noncomputable def S.wnum1_L {R : Type} (n lo : Int) (k : AVal → List Blk → Option R) : Option R := fnEval tis F69 0 G29 Tryz.f69 [.iface 3 (.int .i64 n), .int .i64 lo] [] k
noncomputable def S.wnum1 (n lo : Int) : Int :=
  (S.mclamp n lo 1000000)
theorem S.wnum1_v {R : Type} (n lo : Int) (k : AVal → List Blk → Option R) : S.wnum1_L n lo k = k (.int .i64 (S.wnum1 n lo)) [] :=
  Eq.trans (b := (k (.int .i64 (S.mclamp n lo 1000000)) ([]))) (by kernel_rfl) rfl
noncomputable def H69 : Hnd := fun R args σ k => match args, σ with
  | [.iface 2 (.int .i64 n), .int .i64 lo], [] => k (.int .i64 (S.wnum n lo)) []
  | [.iface 3 (.int .i64 n), .int .i64 lo], [] => k (.int .i64 (S.wnum1 n lo)) []
  | _, _ => none
theorem H69_ok : HndOk Tryz.prog 69 H69 := hnd_ok tis tisOk mixOk G29_ok F69 Tryz.func69 rfl (by
  intro R args σ k r h
  unfold H69 at h
  split at h
  · rename_i n lo; exact ⟨0, (S.wnum_v n lo _).trans h⟩
  · rename_i n lo; exact ⟨0, (S.wnum1_v n lo _).trans h⟩
  · cases h)
noncomputable def G69 : Env := Env.add 69 H69 G29
theorem G69_ok : EnvOk Tryz.prog G69 := envAdd_ok H69_ok G29_ok

/-! want.Of -/
def F28 : FCfg := ⟨keepAt [(0, [1, 2]), (1, [1, 2, 9]), (2, [4]), (3, [5]), (4, [4])], loopAt [], []⟩
noncomputable def S.wof_L {R : Type} (c : Cf) (m : Int) (k : AVal → List Blk → Option R) : Option R := fnEval tis F28 0 G69 Tryz.f28 [.agg (cfA c), .int .i64 m] [] k
noncomputable def S.wof_gk {R : Type} (c : Cf) (m : Int) (k : AVal → List Blk → Option R) : (Int) → Option R := (fun v : Int => k (.int .i64 v) [])
noncomputable def S.wof (c : Cf) (m : Int) : Option (Int) :=
  bif !S.may c then
   some (0)
 else
   (optK (S.per c) fun o3 =>
   (optK (S.mup m o3) fun o4 =>
   some (S.wnum o4.1 0)))
theorem S.wof_v {R : Type} (c : Cf) (m : Int) (k : AVal → List Blk → Option R) : S.wof_L c m k = oK (S.wof_gk c m k) (S.wof c m) :=
  Eq.trans (b := (bif !S.may c then
   (S.wof_gk c m k) (0)
 else
   (optK (S.per c) fun o3 =>
   (optK (S.mup m o3) fun o4 =>
   (S.wof_gk c m k) (S.wnum o4.1 0))))) (by kernel_rfl) (bif_lift (f := (oK (S.wof_gk c m k))) rfl (opt_lift fun o3 => (opt_lift fun o4 => rfl)))
noncomputable def H28 : Hnd := fun R args σ k => match args, σ with
  | [.agg [.int .i64 target_, .int .i64 util_, .int .i64 stable_, .int .i64 panic_, .int .i64 grain_, .int .i64 threshold_, .int .i64 up_, .int .i64 down_, .int .i64 min_, .int .i64 max_, .int .i64 initial_, .int .i64 grace_, .int .i64 delay_, .int .i64 burst_, .int .i64 limit_, .int .i64 queue_, .int .i64 timeout_, .int .i64 ready_, .int .i64 subset_, .int .i64 sample_], .int .i64 m], [] => oK (fun v : Int => k (.int .i64 v) []) (S.wof ⟨target_, util_, stable_, panic_, grain_, threshold_, up_, down_, min_, max_, initial_, grace_, delay_, burst_, limit_, queue_, timeout_, ready_, subset_, sample_⟩ m)
  | _, _ => none
theorem H28_ok : HndOk Tryz.prog 28 H28 := hnd_ok tis tisOk mixOk G69_ok F28 Tryz.func28 rfl (by
  intro R args σ k r h
  unfold H28 at h
  split at h
  · rename_i target_ util_ stable_ panic_ grain_ threshold_ up_ down_ min_ max_ initial_ grace_ delay_ burst_ limit_ queue_ timeout_ ready_ subset_ sample_ m; exact ⟨0, (S.wof_v ⟨target_, util_, stable_, panic_, grain_, threshold_, up_, down_, min_, max_, initial_, grace_, delay_, burst_, limit_, queue_, timeout_, ready_, subset_, sample_⟩ m _).trans h⟩
  · cases h)
noncomputable def G28 : Env := Env.add 28 H28 G69
theorem G28_ok : EnvOk Tryz.prog G28 := envAdd_ok H28_ok G69_ok

/-! want.Over -/
def F48 : FCfg := ⟨keepAt [(0, [1, 2, 3]), (1, [6])], loopAt [], []⟩
noncomputable def S.wover_L {R : Type} (c : Cf) (w r : Int) (k : AVal → List Blk → Option R) : Option R := fnEval tis F48 0 G28 Tryz.f48 [.agg (cfA c), .int .i64 w, .int .i64 r] [] k
noncomputable def S.wover_gk {R : Type} (c : Cf) (w r : Int) (k : AVal → List Blk → Option R) : (Bool) → Option R := (fun v : Bool => k (.bool v) [])
noncomputable def S.wover (c : Cf) (w r : Int) : Bool :=
  bif S.may c then
   (decide (Go.IntKind.wrap .i64 (c.threshold * S.wnum1 r 1) ≤ Go.IntKind.wrap .i64 (S.wnum1 w 0 * 1000)))
 else
   (false)
theorem S.wover_v {R : Type} (c : Cf) (w r : Int) (k : AVal → List Blk → Option R) : S.wover_L c w r k = (S.wover_gk c w r k) (S.wover c w r) :=
  Eq.trans (b := (bif S.may c then
   (S.wover_gk c w r k) (decide (Go.IntKind.wrap .i64 (c.threshold * S.wnum1 r 1) ≤ Go.IntKind.wrap .i64 (S.wnum1 w 0 * 1000)))
 else
   (S.wover_gk c w r k) (false))) (by kernel_rfl) (bif_lift (f := (S.wover_gk c w r k)) rfl rfl)
noncomputable def H48 : Hnd := fun R args σ k => match args, σ with
  | [.agg [.int .i64 target_, .int .i64 util_, .int .i64 stable_, .int .i64 panic_, .int .i64 grain_, .int .i64 threshold_, .int .i64 up_, .int .i64 down_, .int .i64 min_, .int .i64 max_, .int .i64 initial_, .int .i64 grace_, .int .i64 delay_, .int .i64 burst_, .int .i64 limit_, .int .i64 queue_, .int .i64 timeout_, .int .i64 ready_, .int .i64 subset_, .int .i64 sample_], .int .i64 w, .int .i64 r], [] => k (.bool (S.wover ⟨target_, util_, stable_, panic_, grain_, threshold_, up_, down_, min_, max_, initial_, grace_, delay_, burst_, limit_, queue_, timeout_, ready_, subset_, sample_⟩ w r)) []
  | _, _ => none
theorem H48_ok : HndOk Tryz.prog 48 H48 := hnd_ok tis tisOk mixOk G28_ok F48 Tryz.func48 rfl (by
  intro R args σ k r h
  unfold H48 at h
  split at h
  · rename_i target_ util_ stable_ panic_ grain_ threshold_ up_ down_ min_ max_ initial_ grace_ delay_ burst_ limit_ queue_ timeout_ ready_ subset_ sample_ w r; exact ⟨0, (S.wover_v ⟨target_, util_, stable_, panic_, grain_, threshold_, up_, down_, min_, max_, initial_, grace_, delay_, burst_, limit_, queue_, timeout_, ready_, subset_, sample_⟩ w r _).trans h⟩
  · cases h)
noncomputable def G48 : Env := Env.add 48 H48 G28
theorem G48_ok : EnvOk Tryz.prog G48 := envAdd_ok H48_ok G28_ok

/-! rate.there -/
def F110 : FCfg := ⟨keepAt [(0, [0, 1]), (1, [1, 5, 6]), (2, [1, 5, 13]), (3, [4]), (4, [4])], loopAt [], []⟩
noncomputable def S.rthere_L {R : Type} (n lo : Int) (k : AVal → List Blk → Option R) : Option R := fnEval tis F110 0 G48 Tryz.f110 [.iface 3 (.int .i64 n), .int .i64 lo] [] k
noncomputable def S.rthere (n lo : Int) : Int :=
  (if 1000000 < if lo > n then lo else n then 1000000 else if lo > n then lo else n)
theorem S.rthere_v {R : Type} (n lo : Int) (k : AVal → List Blk → Option R) : S.rthere_L n lo k = k (.int .i64 (S.rthere n lo)) [] :=
  Eq.trans (b := (k (.int .i64 (if 1000000 < if lo > n then lo else n then 1000000 else if lo > n then lo else n)) ([]))) (by kernel_rfl) rfl
noncomputable def H110 : Hnd := fun R args σ k => match args, σ with
  | [.iface 3 (.int .i64 n), .int .i64 lo], [] => k (.int .i64 (S.rthere n lo)) []
  | _, _ => none
theorem H110_ok : HndOk Tryz.prog 110 H110 := hnd_ok tis tisOk mixOk G48_ok F110 Tryz.func110 rfl (by
  intro R args σ k r h
  unfold H110 at h
  split at h
  · rename_i n lo; exact ⟨0, (S.rthere_v n lo _).trans h⟩
  · cases h)
noncomputable def G110 : Env := Env.add 110 H110 G48
theorem G110_ok : EnvOk Tryz.prog G110 := envAdd_ok H110_ok G48_ok

/-! rate.Most -/
def F84 : FCfg := ⟨keepAt [(0, [1, 2]), (1, [1, 2, 9]), (2, [4]), (3, [5]), (4, [4])], loopAt [], []⟩
noncomputable def S.most_L {R : Type} (c : Cf) (r : Int) (k : AVal → List Blk → Option R) : Option R := fnEval tis F84 0 G110 Tryz.f84 [.agg (cfA c), .int .i64 r] [] k
noncomputable def S.most_gk {R : Type} (c : Cf) (r : Int) (k : AVal → List Blk → Option R) : (Int) → Option R := (fun v : Int => k (.int .i64 v) [])
noncomputable def S.most (c : Cf) (r : Int) : Option (Int) :=
  bif !S.may c then
   some (0)
 else
   (optK (S.mup (Go.IntKind.wrap .i64 (c.up * S.rthere r 1)) 1000) fun o3 =>
   some (if 1000000 < o3.1 then 1000000 else o3.1))
theorem S.most_v {R : Type} (c : Cf) (r : Int) (k : AVal → List Blk → Option R) : S.most_L c r k = oK (S.most_gk c r k) (S.most c r) :=
  Eq.trans (b := (bif !S.may c then
   (S.most_gk c r k) (0)
 else
   (optK (S.mup (Go.IntKind.wrap .i64 (c.up * S.rthere r 1)) 1000) fun o3 =>
   (S.most_gk c r k) (if 1000000 < o3.1 then 1000000 else o3.1)))) (by kernel_rfl) (bif_lift (f := (oK (S.most_gk c r k))) rfl (opt_lift fun o3 => rfl))
noncomputable def H84 : Hnd := fun R args σ k => match args, σ with
  | [.agg [.int .i64 target_, .int .i64 util_, .int .i64 stable_, .int .i64 panic_, .int .i64 grain_, .int .i64 threshold_, .int .i64 up_, .int .i64 down_, .int .i64 min_, .int .i64 max_, .int .i64 initial_, .int .i64 grace_, .int .i64 delay_, .int .i64 burst_, .int .i64 limit_, .int .i64 queue_, .int .i64 timeout_, .int .i64 ready_, .int .i64 subset_, .int .i64 sample_], .int .i64 r], [] => oK (fun v : Int => k (.int .i64 v) []) (S.most ⟨target_, util_, stable_, panic_, grain_, threshold_, up_, down_, min_, max_, initial_, grace_, delay_, burst_, limit_, queue_, timeout_, ready_, subset_, sample_⟩ r)
  | _, _ => none
theorem H84_ok : HndOk Tryz.prog 84 H84 := hnd_ok tis tisOk mixOk G110_ok F84 Tryz.func84 rfl (by
  intro R args σ k r h
  unfold H84 at h
  split at h
  · rename_i target_ util_ stable_ panic_ grain_ threshold_ up_ down_ min_ max_ initial_ grace_ delay_ burst_ limit_ queue_ timeout_ ready_ subset_ sample_ r; exact ⟨0, (S.most_v ⟨target_, util_, stable_, panic_, grain_, threshold_, up_, down_, min_, max_, initial_, grace_, delay_, burst_, limit_, queue_, timeout_, ready_, subset_, sample_⟩ r _).trans h⟩
  · cases h)
noncomputable def G84 : Env := Env.add 84 H84 G110
theorem G84_ok : EnvOk Tryz.prog G84 := envAdd_ok H84_ok G110_ok

/-! rate.Least -/
def F83 : FCfg := ⟨keepAt [(0, [1, 2]), (1, [1, 2, 9]), (2, [4]), (3, [5]), (4, [4])], loopAt [], []⟩
noncomputable def S.least_L {R : Type} (c : Cf) (r : Int) (k : AVal → List Blk → Option R) : Option R := fnEval tis F83 0 G84 Tryz.f83 [.agg (cfA c), .int .i64 r] [] k
noncomputable def S.least_gk {R : Type} (c : Cf) (r : Int) (k : AVal → List Blk → Option R) : (Int) → Option R := (fun v : Int => k (.int .i64 v) [])
noncomputable def S.least (c : Cf) (r : Int) : Option (Int) :=
  bif !S.may c then
   some (0)
 else
   (optK (S.mdown (Go.IntKind.wrap .i64 (1000 * S.rthere r 0)) c.down) fun o3 =>
   some (o3.1))
theorem S.least_v {R : Type} (c : Cf) (r : Int) (k : AVal → List Blk → Option R) : S.least_L c r k = oK (S.least_gk c r k) (S.least c r) :=
  Eq.trans (b := (bif !S.may c then
   (S.least_gk c r k) (0)
 else
   (optK (S.mdown (Go.IntKind.wrap .i64 (1000 * S.rthere r 0)) c.down) fun o3 =>
   (S.least_gk c r k) (o3.1)))) (by kernel_rfl) (bif_lift (f := (oK (S.least_gk c r k))) rfl (opt_lift fun o3 => rfl))
noncomputable def H83 : Hnd := fun R args σ k => match args, σ with
  | [.agg [.int .i64 target_, .int .i64 util_, .int .i64 stable_, .int .i64 panic_, .int .i64 grain_, .int .i64 threshold_, .int .i64 up_, .int .i64 down_, .int .i64 min_, .int .i64 max_, .int .i64 initial_, .int .i64 grace_, .int .i64 delay_, .int .i64 burst_, .int .i64 limit_, .int .i64 queue_, .int .i64 timeout_, .int .i64 ready_, .int .i64 subset_, .int .i64 sample_], .int .i64 r], [] => oK (fun v : Int => k (.int .i64 v) []) (S.least ⟨target_, util_, stable_, panic_, grain_, threshold_, up_, down_, min_, max_, initial_, grace_, delay_, burst_, limit_, queue_, timeout_, ready_, subset_, sample_⟩ r)
  | _, _ => none
theorem H83_ok : HndOk Tryz.prog 83 H83 := hnd_ok tis tisOk mixOk G84_ok F83 Tryz.func83 rfl (by
  intro R args σ k r h
  unfold H83 at h
  split at h
  · rename_i target_ util_ stable_ panic_ grain_ threshold_ up_ down_ min_ max_ initial_ grace_ delay_ burst_ limit_ queue_ timeout_ ready_ subset_ sample_ r; exact ⟨0, (S.least_v ⟨target_, util_, stable_, panic_, grain_, threshold_, up_, down_, min_, max_, initial_, grace_, delay_, burst_, limit_, queue_, timeout_, ready_, subset_, sample_⟩ r _).trans h⟩
  · cases h)
noncomputable def G83 : Env := Env.add 83 H83 G84
theorem G83_ok : EnvOk Tryz.prog G83 := envAdd_ok H83_ok G84_ok

/-! rate.Limit -/
def F49 : FCfg := ⟨keepAt [(0, [1, 2, 3]), (1, [1, 2, 3, 9]), (2, [6]), (3, [6])], loopAt [], []⟩
noncomputable def S.limit_L {R : Type} (c : Cf) (w r : Int) (k : AVal → List Blk → Option R) : Option R := fnEval tis F49 0 G83 Tryz.f49 [.agg (cfA c), .int .i64 w, .int .i64 r] [] k
noncomputable def S.limit_gk {R : Type} (c : Cf) (w r : Int) (k : AVal → List Blk → Option R) : (Int) → Option R := (fun v : Int => k (.int .i64 v) [])
noncomputable def S.limit (c : Cf) (w r : Int) : Option (Int) :=
  bif !S.may c then
   some (0)
 else
   (optK (S.least c r) fun o3 =>
   (optK (S.most c r) fun o4 =>
   some (if o4 < if o3 > w then o3 else w then o4 else if o3 > w then o3 else w)))
theorem S.limit_v {R : Type} (c : Cf) (w r : Int) (k : AVal → List Blk → Option R) : S.limit_L c w r k = oK (S.limit_gk c w r k) (S.limit c w r) :=
  Eq.trans (b := (bif !S.may c then
   (S.limit_gk c w r k) (0)
 else
   (optK (S.least c r) fun o3 =>
   (optK (S.most c r) fun o4 =>
   (S.limit_gk c w r k) (if o4 < if o3 > w then o3 else w then o4 else if o3 > w then o3 else w))))) (by kernel_rfl) (bif_lift (f := (oK (S.limit_gk c w r k))) rfl (opt_lift fun o3 => (opt_lift fun o4 => rfl)))
noncomputable def H49 : Hnd := fun R args σ k => match args, σ with
  | [.agg [.int .i64 target_, .int .i64 util_, .int .i64 stable_, .int .i64 panic_, .int .i64 grain_, .int .i64 threshold_, .int .i64 up_, .int .i64 down_, .int .i64 min_, .int .i64 max_, .int .i64 initial_, .int .i64 grace_, .int .i64 delay_, .int .i64 burst_, .int .i64 limit_, .int .i64 queue_, .int .i64 timeout_, .int .i64 ready_, .int .i64 subset_, .int .i64 sample_], .int .i64 w, .int .i64 r], [] => oK (fun v : Int => k (.int .i64 v) []) (S.limit ⟨target_, util_, stable_, panic_, grain_, threshold_, up_, down_, min_, max_, initial_, grace_, delay_, burst_, limit_, queue_, timeout_, ready_, subset_, sample_⟩ w r)
  | _, _ => none
theorem H49_ok : HndOk Tryz.prog 49 H49 := hnd_ok tis tisOk mixOk G83_ok F49 Tryz.func49 rfl (by
  intro R args σ k r h
  unfold H49 at h
  split at h
  · rename_i target_ util_ stable_ panic_ grain_ threshold_ up_ down_ min_ max_ initial_ grace_ delay_ burst_ limit_ queue_ timeout_ ready_ subset_ sample_ w r; exact ⟨0, (S.limit_v ⟨target_, util_, stable_, panic_, grain_, threshold_, up_, down_, min_, max_, initial_, grace_, delay_, burst_, limit_, queue_, timeout_, ready_, subset_, sample_⟩ w r _).trans h⟩
  · cases h)
noncomputable def G49 : Env := Env.add 49 H49 G83
theorem G49_ok : EnvOk Tryz.prog G49 := envAdd_ok H49_ok G83_ok

/-! alarm.panics -/
def F85 : FCfg := ⟨keepAt [(0, [0]), (1, [3, 4]), (2, [2])], loopAt [], []⟩
noncomputable def S.panics_L {R : Type} (t m : Int) (k : AVal → List Blk → Option R) : Option R := fnEval tis F85 0 G49 Tryz.f85 [.iface 50 (.agg [.int .i64 t, .int .i64 m])] [] k
noncomputable def S.panics (t m : Int) : Bool :=
  (decide (0 ≤ t))
theorem S.panics_v {R : Type} (t m : Int) (k : AVal → List Blk → Option R) : S.panics_L t m k = k (.bool (S.panics t m)) [] :=
  Eq.trans (b := (k (.bool (decide (0 ≤ t))) ([]))) (by kernel_rfl) rfl
noncomputable def H85 : Hnd := fun R args σ k => match args, σ with
  | [.iface 50 (.agg [.int .i64 t, .int .i64 m])], [] => k (.bool (S.panics t m)) []
  | _, _ => none
theorem H85_ok : HndOk Tryz.prog 85 H85 := hnd_ok tis tisOk mixOk G49_ok F85 Tryz.func85 rfl (by
  intro R args σ k r h
  unfold H85 at h
  split at h
  · rename_i t m; exact ⟨0, (S.panics_v t m _).trans h⟩
  · cases h)
noncomputable def G85 : Env := Env.add 85 H85 G49
theorem G85_ok : EnvOk Tryz.prog G85 := envAdd_ok H85_ok G49_ok

/-! alarm.Is -/
def F50 : FCfg := ⟨keepAt [(0, [1]), (1, [2])], loopAt [], []⟩
noncomputable def S.is_L {R : Type} (t m : Int) (k : AVal → List Blk → Option R) : Option R := fnEval tis F50 0 G85 Tryz.f50 [.agg [.int .i64 t, .int .i64 m]] [] k
noncomputable def S.is (t m : Int) : Bool :=
  (S.panics t m)
theorem S.is_v {R : Type} (t m : Int) (k : AVal → List Blk → Option R) : S.is_L t m k = k (.bool (S.is t m)) [] :=
  Eq.trans (b := (k (.bool (S.panics t m)) ([]))) (by kernel_rfl) rfl
noncomputable def H50 : Hnd := fun R args σ k => match args, σ with
  | [.agg [.int .i64 t, .int .i64 m]], [] => k (.bool (S.is t m)) []
  | _, _ => none
theorem H50_ok : HndOk Tryz.prog 50 H50 := hnd_ok tis tisOk mixOk G85_ok F50 Tryz.func50 rfl (by
  intro R args σ k r h
  unfold H50 at h
  split at h
  · rename_i t m; exact ⟨0, (S.is_v t m _).trans h⟩
  · cases h)
noncomputable def G50 : Env := Env.add 50 H50 G85
theorem G50_ok : EnvOk Tryz.prog G50 := envAdd_ok H50_ok G85_ok

/-! alarm.Keep -/
def F52 : FCfg := ⟨keepAt [(0, [1, 2, 4]), (1, [1, 2, 4, 8]), (2, [4, 5]), (3, [2, 4]), (4, [4, 5])], loopAt [], []⟩
noncomputable def S.keep_L {R : Type} (t m w : Int) (k : AVal → List Blk → Option R) : Option R := fnEval tis F52 0 G50 Tryz.f52 [.agg [.int .i64 t, .int .i64 m], .int .i64 w] [] k
noncomputable def S.keep_gk {R : Type} (t m w : Int) (k : AVal → List Blk → Option R) : (Int × Int × Int) → Option R := (fun v : Int × Int × Int => k (.tuple [(.agg [(.int .i64 v.1), (.int .i64 v.2.1)]), (.int .i64 v.2.2)]) [])
noncomputable def S.keep (t m w : Int) : Int × Int × Int :=
  bif !S.is t m then
   (t, m, w)
 else
   (t, if w > m then w else m, if w > m then w else m)
theorem S.keep_v {R : Type} (t m w : Int) (k : AVal → List Blk → Option R) : S.keep_L t m w k = (S.keep_gk t m w k) (S.keep t m w) :=
  Eq.trans (b := (bif !S.is t m then
   (S.keep_gk t m w k) (t, m, w)
 else
   (S.keep_gk t m w k) (t, if w > m then w else m, if w > m then w else m))) (by kernel_rfl) (bif_lift (f := (S.keep_gk t m w k)) rfl rfl)
noncomputable def H52 : Hnd := fun R args σ k => match args, σ with
  | [.agg [.int .i64 t, .int .i64 m], .int .i64 w], [] => k (.tuple [(.agg [(.int .i64 (S.keep t m w).1), (.int .i64 (S.keep t m w).2.1)]), (.int .i64 (S.keep t m w).2.2)]) []
  | _, _ => none
theorem H52_ok : HndOk Tryz.prog 52 H52 := hnd_ok tis tisOk mixOk G50_ok F52 Tryz.func52 rfl (by
  intro R args σ k r h
  unfold H52 at h
  split at h
  · rename_i t m w; exact ⟨0, (S.keep_v t m w _).trans h⟩
  · cases h)
noncomputable def G52 : Env := Env.add 52 H52 G50
theorem G52_ok : EnvOk Tryz.prog G52 := envAdd_ok H52_ok G50_ok

/-! alarm.Calm -/
def F35 : FCfg := ⟨keepAt [(0, [0]), (1, [0])], loopAt [], []⟩
noncomputable def S.calm_L {R : Type}  (k : AVal → List Blk → Option R) : Option R := fnEval tis F35 0 G52 Tryz.f35 [] [] k
noncomputable def S.calm  : Int × Int :=
  (-1, 0)
theorem S.calm_v {R : Type}  (k : AVal → List Blk → Option R) : S.calm_L k = k (.agg [(.int .i64 (S.calm).1), (.int .i64 (S.calm).2)]) [] :=
  Eq.trans (b := (k (.agg [.int .i64 (-1), .int .i64 0]) ([]))) (by kernel_rfl) rfl
noncomputable def H35 : Hnd := fun R args σ k => match args, σ with
  | [], [] => k (.agg [(.int .i64 (S.calm).1), (.int .i64 (S.calm).2)]) []
  | _, _ => none
theorem H35_ok : HndOk Tryz.prog 35 H35 := hnd_ok tis tisOk mixOk G52_ok F35 Tryz.func35 rfl (by
  intro R args σ k r h
  unfold H35 at h
  split at h
  · exact ⟨0, (S.calm_v _).trans h⟩
  · cases h)
noncomputable def G35 : Env := Env.add 35 H35 G52
theorem G35_ok : EnvOk Tryz.prog G35 := envAdd_ok H35_ok G52_ok

/-! alarm.Next -/
def F47 : FCfg := ⟨keepAt [(0, [2, 3, 4, 5, 8]), (1, [2, 3, 4, 5, 8, 9]), (2, [8]), (3, [2, 3, 4, 5, 8, 22]), (4, [5, 8]), (5, [8]), (6, [2, 4, 5, 8, 31]), (7, [8]), (8, [5, 8, 35]), (9, [8]), (10, [8])], loopAt [], []⟩
noncomputable def S.next_L {R : Type} (c : Cf) (t m now : Int) (over : Bool) (k : AVal → List Blk → Option R) : Option R := fnEval tis F47 0 G35 Tryz.f47 [.agg (cfA c), .agg [.int .i64 t, .int .i64 m], .int .i64 now, .bool over] [] k
noncomputable def S.next_gk {R : Type} (c : Cf) (t m now : Int) (over : Bool) (k : AVal → List Blk → Option R) : (Int × Int) → Option R := (fun v : Int × Int => k (.agg [(.int .i64 v.1), (.int .i64 v.2)]) [])
noncomputable def S.next (c : Cf) (t m now : Int) (over : Bool) : Int × Int :=
  bif !S.may c then
   (t, m)
 else
   bif decide (now < 0) then
   (t, m)
 else
   bif decide (1099511627776 < now) then
   (t, m)
 else
   bif over then
   bif S.is t m then
   (now, m)
 else
   bif over then
   (now, 0)
 else
   bif S.is t m then
   bif decide (c.stable ≤ Go.IntKind.wrap .i64 (now - t)) then
   (-1, 0)
 else
   (t, m)
 else
   (t, m)
 else
   bif over then
   (now, 0)
 else
   bif S.is t m then
   bif decide (c.stable ≤ Go.IntKind.wrap .i64 (now - t)) then
   (-1, 0)
 else
   (t, m)
 else
   (t, m)
theorem S.next_v {R : Type} (c : Cf) (t m now : Int) (over : Bool) (k : AVal → List Blk → Option R) : S.next_L c t m now over k = (S.next_gk c t m now over k) (S.next c t m now over) :=
  Eq.trans (b := (bif !S.may c then
   (S.next_gk c t m now over k) (t, m)
 else
   bif decide (now < 0) then
   (S.next_gk c t m now over k) (t, m)
 else
   bif decide (1099511627776 < now) then
   (S.next_gk c t m now over k) (t, m)
 else
   bif over then
   bif S.is t m then
   (S.next_gk c t m now over k) (now, m)
 else
   bif over then
   (S.next_gk c t m now over k) (now, 0)
 else
   bif S.is t m then
   bif decide (c.stable ≤ Go.IntKind.wrap .i64 (now - t)) then
   (S.next_gk c t m now over k) (-1, 0)
 else
   (S.next_gk c t m now over k) (t, m)
 else
   (S.next_gk c t m now over k) (t, m)
 else
   bif over then
   (S.next_gk c t m now over k) (now, 0)
 else
   bif S.is t m then
   bif decide (c.stable ≤ Go.IntKind.wrap .i64 (now - t)) then
   (S.next_gk c t m now over k) (-1, 0)
 else
   (S.next_gk c t m now over k) (t, m)
 else
   (S.next_gk c t m now over k) (t, m))) (by kernel_rfl) (bif_lift (f := (S.next_gk c t m now over k)) rfl (bif_lift (f := (S.next_gk c t m now over k)) rfl (bif_lift (f := (S.next_gk c t m now over k)) rfl (bif_lift (f := (S.next_gk c t m now over k)) (bif_lift (f := (S.next_gk c t m now over k)) rfl (bif_lift (f := (S.next_gk c t m now over k)) rfl (bif_lift (f := (S.next_gk c t m now over k)) (bif_lift (f := (S.next_gk c t m now over k)) rfl rfl) rfl))) (bif_lift (f := (S.next_gk c t m now over k)) rfl (bif_lift (f := (S.next_gk c t m now over k)) (bif_lift (f := (S.next_gk c t m now over k)) rfl rfl) rfl))))))
noncomputable def H47 : Hnd := fun R args σ k => match args, σ with
  | [.agg [.int .i64 target_, .int .i64 util_, .int .i64 stable_, .int .i64 panic_, .int .i64 grain_, .int .i64 threshold_, .int .i64 up_, .int .i64 down_, .int .i64 min_, .int .i64 max_, .int .i64 initial_, .int .i64 grace_, .int .i64 delay_, .int .i64 burst_, .int .i64 limit_, .int .i64 queue_, .int .i64 timeout_, .int .i64 ready_, .int .i64 subset_, .int .i64 sample_], .agg [.int .i64 t, .int .i64 m], .int .i64 now, .bool over], [] => k (.agg [(.int .i64 (S.next ⟨target_, util_, stable_, panic_, grain_, threshold_, up_, down_, min_, max_, initial_, grace_, delay_, burst_, limit_, queue_, timeout_, ready_, subset_, sample_⟩ t m now over).1), (.int .i64 (S.next ⟨target_, util_, stable_, panic_, grain_, threshold_, up_, down_, min_, max_, initial_, grace_, delay_, burst_, limit_, queue_, timeout_, ready_, subset_, sample_⟩ t m now over).2)]) []
  | _, _ => none
theorem H47_ok : HndOk Tryz.prog 47 H47 := hnd_ok tis tisOk mixOk G35_ok F47 Tryz.func47 rfl (by
  intro R args σ k r h
  unfold H47 at h
  split at h
  · rename_i target_ util_ stable_ panic_ grain_ threshold_ up_ down_ min_ max_ initial_ grace_ delay_ burst_ limit_ queue_ timeout_ ready_ subset_ sample_ t m now over; exact ⟨0, (S.next_v ⟨target_, util_, stable_, panic_, grain_, threshold_, up_, down_, min_, max_, initial_, grace_, delay_, burst_, limit_, queue_, timeout_, ready_, subset_, sample_⟩ t m now over _).trans h⟩
  · cases h)
noncomputable def G47 : Env := Env.add 47 H47 G35
theorem G47_ok : EnvOk Tryz.prog G47 := envAdd_ok H47_ok G35_ok

/-! burst.there -/
def F89 : FCfg := ⟨keepAt [(0, [0]), (1, [3, 4]), (2, [3, 11]), (3, [2]), (4, [2])], loopAt [], []⟩
noncomputable def S.bthere_L {R : Type} (n : Int) (k : AVal → List Blk → Option R) : Option R := fnEval tis F89 0 G47 Tryz.f89 [.iface 3 (.int .i64 n)] [] k
noncomputable def S.bthere (n : Int) : Int :=
  (if 1000000 < if 0 > n then 0 else n then 1000000 else if 0 > n then 0 else n)
theorem S.bthere_v {R : Type} (n : Int) (k : AVal → List Blk → Option R) : S.bthere_L n k = k (.int .i64 (S.bthere n)) [] :=
  Eq.trans (b := (k (.int .i64 (if 1000000 < if 0 > n then 0 else n then 1000000 else if 0 > n then 0 else n)) ([]))) (by kernel_rfl) rfl
noncomputable def H89 : Hnd := fun R args σ k => match args, σ with
  | [.iface 3 (.int .i64 n)], [] => k (.int .i64 (S.bthere n)) []
  | _, _ => none
theorem H89_ok : HndOk Tryz.prog 89 H89 := hnd_ok tis tisOk mixOk G47_ok F89 Tryz.func89 rfl (by
  intro R args σ k r h
  unfold H89 at h
  split at h
  · rename_i n; exact ⟨0, (S.bthere_v n _).trans h⟩
  · cases h)
noncomputable def G89 : Env := Env.add 89 H89 G47
theorem G89_ok : EnvOk Tryz.prog G89 := envAdd_ok H89_ok G47_ok

/-! burst.Excess -/
def F54 : FCfg := ⟨keepAt [(0, [1, 2, 3]), (1, [1, 2, 3, 9]), (2, [6]), (3, [1, 2, 3, 13]), (4, [6]), (5, [3, 7]), (6, [7]), (7, [6])], loopAt [], []⟩
noncomputable def S.excess_L {R : Type} (c : Cf) (r q : Int) (k : AVal → List Blk → Option R) : Option R := fnEval tis F54 0 G89 Tryz.f54 [.agg (cfA c), .int .i64 r, .int .i64 q] [] k
noncomputable def S.excess_gk {R : Type} (c : Cf) (r q : Int) (k : AVal → List Blk → Option R) : (Int) → Option R := (fun v : Int => k (.int .i64 v) [])
noncomputable def S.excess (c : Cf) (r q : Int) : Int :=
  bif !S.may c then
   (0)
 else
   bif decide (c.burst = -1000) then
   (-1000)
 else
   (Prod.fst (S.msub (Prod.fst (S.msub (Go.IntKind.wrap .i64 (Go.IntKind.wrap .i64 (S.bthere r * c.limit) * 1000)) q)) c.burst))
theorem S.excess_v {R : Type} (c : Cf) (r q : Int) (k : AVal → List Blk → Option R) : S.excess_L c r q k = (S.excess_gk c r q k) (S.excess c r q) :=
  Eq.trans (b := (bif !S.may c then
   (S.excess_gk c r q k) (0)
 else
   bif decide (c.burst = -1000) then
   (S.excess_gk c r q k) (-1000)
 else
   (S.excess_gk c r q k) (Prod.fst (S.msub (Prod.fst (S.msub (Go.IntKind.wrap .i64 (Go.IntKind.wrap .i64 (S.bthere r * c.limit) * 1000)) q)) c.burst)))) (by kernel_rfl) (bif_lift (f := (S.excess_gk c r q k)) rfl (bif_lift (f := (S.excess_gk c r q k)) rfl rfl))
noncomputable def H54 : Hnd := fun R args σ k => match args, σ with
  | [.agg [.int .i64 target_, .int .i64 util_, .int .i64 stable_, .int .i64 panic_, .int .i64 grain_, .int .i64 threshold_, .int .i64 up_, .int .i64 down_, .int .i64 min_, .int .i64 max_, .int .i64 initial_, .int .i64 grace_, .int .i64 delay_, .int .i64 burst_, .int .i64 limit_, .int .i64 queue_, .int .i64 timeout_, .int .i64 ready_, .int .i64 subset_, .int .i64 sample_], .int .i64 r, .int .i64 q], [] => k (.int .i64 (S.excess ⟨target_, util_, stable_, panic_, grain_, threshold_, up_, down_, min_, max_, initial_, grace_, delay_, burst_, limit_, queue_, timeout_, ready_, subset_, sample_⟩ r q)) []
  | _, _ => none
theorem H54_ok : HndOk Tryz.prog 54 H54 := hnd_ok tis tisOk mixOk G89_ok F54 Tryz.func54 rfl (by
  intro R args σ k r h
  unfold H54 at h
  split at h
  · rename_i target_ util_ stable_ panic_ grain_ threshold_ up_ down_ min_ max_ initial_ grace_ delay_ burst_ limit_ queue_ timeout_ ready_ subset_ sample_ r q; exact ⟨0, (S.excess_v ⟨target_, util_, stable_, panic_, grain_, threshold_, up_, down_, min_, max_, initial_, grace_, delay_, burst_, limit_, queue_, timeout_, ready_, subset_, sample_⟩ r q _).trans h⟩
  · cases h)
noncomputable def G54 : Env := Env.add 54 H54 G89
theorem G54_ok : EnvOk Tryz.prog G54 := envAdd_ok H54_ok G89_ok
end Go.Proofs.YtdgipcjigbagfaaGreat.AB
