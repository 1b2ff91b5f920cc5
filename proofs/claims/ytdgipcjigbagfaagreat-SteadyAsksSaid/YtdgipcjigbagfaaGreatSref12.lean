/- The document's functions of layers 12 to 16, as plain functions. -/
import Derived.Test.YtdgipcjigbagfaaGreatSmref
namespace Go.Proofs.YtdgipcjigbagfaaGreat.AB
set_option linter.unusedVariables false

/-! spinnakerref12.Of -/
def F31 : FCfg := ⟨keepAt [(0, [1, 2]), (1, [1, 2, 9]), (2, [4]), (3, [5]), (4, [4])], loopAt [], []⟩
noncomputable def S.rof_L {R : Type} (c : Cf) (m : Int) (k : AVal → List Blk → Option R) : Option R := fnEval tis F31 0 G44 Tryz.f31 [.agg (cfA c), .int .i64 m] [] k
noncomputable def S.rof_gk {R : Type} (c : Cf) (m : Int) (k : AVal → List Blk → Option R) : (Int) → Option R := (fun v : Int => k (.int .i64 v) [])
noncomputable def S.rof (c : Cf) (m : Int) : Option (Int) :=
  bif !S.rmay c then
   some (0)
 else
   (optK (S.rup m (S.rper c)) fun o3 =>
   some (S.rclamp o3.1 0 1000000))
theorem S.rof_v {R : Type} (c : Cf) (m : Int) (k : AVal → List Blk → Option R) : S.rof_L c m k = oK (S.rof_gk c m k) (S.rof c m) :=
  (show S.rof_L c m k =
  (bif !S.rmay c then
   (S.rof_gk c m k) (0)
 else
   (optK (S.rup m (S.rper c)) fun o3 =>
   (S.rof_gk c m k) (S.rclamp o3.1 0 1000000))) from by kernel_rfl).trans (bif_lift (f := (oK (S.rof_gk c m k))) rfl (opt_lift fun o3 => rfl))
noncomputable def H31 : Hnd := fun R args σ k => match args, σ with
  | [.agg [.int .i64 target_, .int .i64 util_, .int .i64 stable_, .int .i64 panic_, .int .i64 grain_, .int .i64 threshold_, .int .i64 up_, .int .i64 down_, .int .i64 min_, .int .i64 max_, .int .i64 initial_, .int .i64 grace_, .int .i64 delay_, .int .i64 burst_, .int .i64 limit_, .int .i64 queue_, .int .i64 timeout_, .int .i64 ready_, .int .i64 subset_, .int .i64 sample_], .int .i64 m], [] => oK (fun v : Int => k (.int .i64 v) []) (S.rof ⟨target_, util_, stable_, panic_, grain_, threshold_, up_, down_, min_, max_, initial_, grace_, delay_, burst_, limit_, queue_, timeout_, ready_, subset_, sample_⟩ m)
  | _, _ => none
theorem H31_ok : HndOk Tryz.prog 31 H31 := hnd_ok tis tisOk mixOk G44_ok F31 Tryz.func31 rfl (by
  intro R args σ k r h
  unfold H31 at h
  split at h
  · rename_i target_ util_ stable_ panic_ grain_ threshold_ up_ down_ min_ max_ initial_ grace_ delay_ burst_ limit_ queue_ timeout_ ready_ subset_ sample_ m; exact ⟨0, (S.rof_v ⟨target_, util_, stable_, panic_, grain_, threshold_, up_, down_, min_, max_, initial_, grace_, delay_, burst_, limit_, queue_, timeout_, ready_, subset_, sample_⟩ m _).trans h⟩
  · cases h)
noncomputable def G31 : Env := Env.add 31 H31 G44
theorem G31_ok : EnvOk Tryz.prog G31 := envAdd_ok H31_ok G44_ok

/-! spinnakerref12.Over -/
def F57 : FCfg := ⟨keepAt [(0, [1, 2, 3]), (1, [6])], loopAt [], []⟩
noncomputable def S.rover_L {R : Type} (c : Cf) (w r : Int) (k : AVal → List Blk → Option R) : Option R := fnEval tis F57 0 G31 Tryz.f57 [.agg (cfA c), .int .i64 w, .int .i64 r] [] k
noncomputable def S.rover_gk {R : Type} (c : Cf) (w r : Int) (k : AVal → List Blk → Option R) : (Bool) → Option R := (fun v : Bool => k (.bool v) [])
noncomputable def S.rover (c : Cf) (w r : Int) : Bool :=
  bif S.rmay c then
   (decide (Go.IntKind.wrap .i64 (c.threshold * S.rcut r 1) ≤ Go.IntKind.wrap .i64 (S.rcut w 0 * 1000)))
 else
   (false)
theorem S.rover_v {R : Type} (c : Cf) (w r : Int) (k : AVal → List Blk → Option R) : S.rover_L c w r k = (S.rover_gk c w r k) (S.rover c w r) :=
  (show S.rover_L c w r k =
  (bif S.rmay c then
   (S.rover_gk c w r k) (decide (Go.IntKind.wrap .i64 (c.threshold * S.rcut r 1) ≤ Go.IntKind.wrap .i64 (S.rcut w 0 * 1000)))
 else
   (S.rover_gk c w r k) (false)) from by kernel_rfl).trans (bif_lift (f := (S.rover_gk c w r k)) rfl rfl)
noncomputable def H57 : Hnd := fun R args σ k => match args, σ with
  | [.agg [.int .i64 target_, .int .i64 util_, .int .i64 stable_, .int .i64 panic_, .int .i64 grain_, .int .i64 threshold_, .int .i64 up_, .int .i64 down_, .int .i64 min_, .int .i64 max_, .int .i64 initial_, .int .i64 grace_, .int .i64 delay_, .int .i64 burst_, .int .i64 limit_, .int .i64 queue_, .int .i64 timeout_, .int .i64 ready_, .int .i64 subset_, .int .i64 sample_], .int .i64 w, .int .i64 r], [] => k (.bool (S.rover ⟨target_, util_, stable_, panic_, grain_, threshold_, up_, down_, min_, max_, initial_, grace_, delay_, burst_, limit_, queue_, timeout_, ready_, subset_, sample_⟩ w r)) []
  | _, _ => none
theorem H57_ok : HndOk Tryz.prog 57 H57 := hnd_ok tis tisOk mixOk G31_ok F57 Tryz.func57 rfl (by
  intro R args σ k r h
  unfold H57 at h
  split at h
  · rename_i target_ util_ stable_ panic_ grain_ threshold_ up_ down_ min_ max_ initial_ grace_ delay_ burst_ limit_ queue_ timeout_ ready_ subset_ sample_ w r; exact ⟨0, (S.rover_v ⟨target_, util_, stable_, panic_, grain_, threshold_, up_, down_, min_, max_, initial_, grace_, delay_, burst_, limit_, queue_, timeout_, ready_, subset_, sample_⟩ w r _).trans h⟩
  · cases h)
noncomputable def G57 : Env := Env.add 57 H57 G31
theorem G57_ok : EnvOk Tryz.prog G57 := envAdd_ok H57_ok G31_ok

/-! spinnakerref12.Limit -/
def F58 : FCfg := ⟨keepAt [(0, [1, 2, 3]), (1, [1, 2, 3, 9]), (2, [6]), (3, [6])], loopAt [], []⟩
noncomputable def S.rlimit_L {R : Type} (c : Cf) (w r : Int) (k : AVal → List Blk → Option R) : Option R := fnEval tis F58 0 G57 Tryz.f58 [.agg (cfA c), .int .i64 w, .int .i64 r] [] k
noncomputable def S.rlimit_gk {R : Type} (c : Cf) (w r : Int) (k : AVal → List Blk → Option R) : (Int) → Option R := (fun v : Int => k (.int .i64 v) [])
noncomputable def S.rlimit (c : Cf) (w r : Int) : Option (Int) :=
  bif !S.rmay c then
   some (0)
 else
   (optK (S.rleast c r) fun o3 =>
   (optK (S.rmost c r) fun o4 =>
   some (if o4 < if o3 > w then o3 else w then o4 else if o3 > w then o3 else w)))
theorem S.rlimit_v {R : Type} (c : Cf) (w r : Int) (k : AVal → List Blk → Option R) : S.rlimit_L c w r k = oK (S.rlimit_gk c w r k) (S.rlimit c w r) :=
  (show S.rlimit_L c w r k =
  (bif !S.rmay c then
   (S.rlimit_gk c w r k) (0)
 else
   (optK (S.rleast c r) fun o3 =>
   (optK (S.rmost c r) fun o4 =>
   (S.rlimit_gk c w r k) (if o4 < if o3 > w then o3 else w then o4 else if o3 > w then o3 else w)))) from by kernel_rfl).trans (bif_lift (f := (oK (S.rlimit_gk c w r k))) rfl (opt_lift fun o3 => (opt_lift fun o4 => rfl)))
noncomputable def H58 : Hnd := fun R args σ k => match args, σ with
  | [.agg [.int .i64 target_, .int .i64 util_, .int .i64 stable_, .int .i64 panic_, .int .i64 grain_, .int .i64 threshold_, .int .i64 up_, .int .i64 down_, .int .i64 min_, .int .i64 max_, .int .i64 initial_, .int .i64 grace_, .int .i64 delay_, .int .i64 burst_, .int .i64 limit_, .int .i64 queue_, .int .i64 timeout_, .int .i64 ready_, .int .i64 subset_, .int .i64 sample_], .int .i64 w, .int .i64 r], [] => oK (fun v : Int => k (.int .i64 v) []) (S.rlimit ⟨target_, util_, stable_, panic_, grain_, threshold_, up_, down_, min_, max_, initial_, grace_, delay_, burst_, limit_, queue_, timeout_, ready_, subset_, sample_⟩ w r)
  | _, _ => none
theorem H58_ok : HndOk Tryz.prog 58 H58 := hnd_ok tis tisOk mixOk G57_ok F58 Tryz.func58 rfl (by
  intro R args σ k r h
  unfold H58 at h
  split at h
  · rename_i target_ util_ stable_ panic_ grain_ threshold_ up_ down_ min_ max_ initial_ grace_ delay_ burst_ limit_ queue_ timeout_ ready_ subset_ sample_ w r; exact ⟨0, (S.rlimit_v ⟨target_, util_, stable_, panic_, grain_, threshold_, up_, down_, min_, max_, initial_, grace_, delay_, burst_, limit_, queue_, timeout_, ready_, subset_, sample_⟩ w r _).trans h⟩
  · cases h)
noncomputable def G58 : Env := Env.add 58 H58 G57
theorem G58_ok : EnvOk Tryz.prog G58 := envAdd_ok H58_ok G57_ok

/-! (spinnakerref12.Mode).Is -/
def F59 : FCfg := ⟨keepAt [(0, [1]), (1, [2])], loopAt [], []⟩
noncomputable def S.ris_L {R : Type} (t m : Int) (k : AVal → List Blk → Option R) : Option R := fnEval tis F59 0 G58 Tryz.f59 [.agg [.int .i64 t, .int .i64 m]] [] k
noncomputable def S.ris (t m : Int) : Bool :=
  (decide (0 ≤ t))
theorem S.ris_v {R : Type} (t m : Int) (k : AVal → List Blk → Option R) : S.ris_L t m k = k (.bool (S.ris t m)) [] :=
  (show S.ris_L t m k =
  (k (.bool (decide (0 ≤ t))) ([])) from by kernel_rfl).trans rfl
noncomputable def H59 : Hnd := fun R args σ k => match args, σ with
  | [.agg [.int .i64 t, .int .i64 m]], [] => k (.bool (S.ris t m)) []
  | _, _ => none
theorem H59_ok : HndOk Tryz.prog 59 H59 := hnd_ok tis tisOk mixOk G58_ok F59 Tryz.func59 rfl (by
  intro R args σ k r h
  unfold H59 at h
  split at h
  · rename_i t m; exact ⟨0, (S.ris_v t m _).trans h⟩
  · cases h)
noncomputable def G59 : Env := Env.add 59 H59 G58
theorem G59_ok : EnvOk Tryz.prog G59 := envAdd_ok H59_ok G58_ok

/-! (spinnakerref12.Mode).Keep -/
def F62 : FCfg := ⟨keepAt [(0, [1, 2, 4]), (1, [1, 2, 4, 8]), (2, [4, 5]), (3, [2, 4]), (4, [4, 5])], loopAt [], []⟩
noncomputable def S.rkeep_L {R : Type} (t m w : Int) (k : AVal → List Blk → Option R) : Option R := fnEval tis F62 0 G59 Tryz.f62 [.agg [.int .i64 t, .int .i64 m], .int .i64 w] [] k
noncomputable def S.rkeep_gk {R : Type} (t m w : Int) (k : AVal → List Blk → Option R) : (Int × Int × Int) → Option R := (fun v : Int × Int × Int => k (.tuple [(.agg [(.int .i64 v.1), (.int .i64 v.2.1)]), (.int .i64 v.2.2)]) [])
noncomputable def S.rkeep (t m w : Int) : Int × Int × Int :=
  bif !S.ris t m then
   (t, m, w)
 else
   (t, if w > m then w else m, if w > m then w else m)
theorem S.rkeep_v {R : Type} (t m w : Int) (k : AVal → List Blk → Option R) : S.rkeep_L t m w k = (S.rkeep_gk t m w k) (S.rkeep t m w) :=
  (show S.rkeep_L t m w k =
  (bif !S.ris t m then
   (S.rkeep_gk t m w k) (t, m, w)
 else
   (S.rkeep_gk t m w k) (t, if w > m then w else m, if w > m then w else m)) from by kernel_rfl).trans (bif_lift (f := (S.rkeep_gk t m w k)) rfl rfl)
noncomputable def H62 : Hnd := fun R args σ k => match args, σ with
  | [.agg [.int .i64 t, .int .i64 m], .int .i64 w], [] => k (.tuple [(.agg [(.int .i64 (S.rkeep t m w).1), (.int .i64 (S.rkeep t m w).2.1)]), (.int .i64 (S.rkeep t m w).2.2)]) []
  | _, _ => none
theorem H62_ok : HndOk Tryz.prog 62 H62 := hnd_ok tis tisOk mixOk G59_ok F62 Tryz.func62 rfl (by
  intro R args σ k r h
  unfold H62 at h
  split at h
  · rename_i t m w; exact ⟨0, (S.rkeep_v t m w _).trans h⟩
  · cases h)
noncomputable def G62 : Env := Env.add 62 H62 G59
theorem G62_ok : EnvOk Tryz.prog G62 := envAdd_ok H62_ok G59_ok

/-! (spinnakerref12.Mode).Next -/
def F56 : FCfg := ⟨keepAt [(0, [2, 3, 4, 5, 8]), (1, [2, 3, 4, 5, 8, 9]), (2, [8]), (3, [2, 3, 4, 5, 8, 22]), (4, [8]), (5, [2, 4, 5, 8, 32]), (6, [8]), (7, [4, 8, 36]), (8, [8]), (9, [8])], loopAt [], []⟩
noncomputable def S.rnext_L {R : Type} (t m : Int) (c : Cf) (now : Int) (over : Bool) (k : AVal → List Blk → Option R) : Option R := fnEval tis F56 0 G62 Tryz.f56 [.agg [.int .i64 t, .int .i64 m], .agg (cfA c), .int .i64 now, .bool over] [] k
noncomputable def S.rnext_gk {R : Type} (t m : Int) (c : Cf) (now : Int) (over : Bool) (k : AVal → List Blk → Option R) : (Int × Int) → Option R := (fun v : Int × Int => k (.agg [(.int .i64 v.1), (.int .i64 v.2)]) [])
noncomputable def S.rnext (t m : Int) (c : Cf) (now : Int) (over : Bool) : Int × Int :=
  bif !S.rmay c then
   (t, m)
 else
   bif decide (now < 0) then
   (t, m)
 else
   bif decide (1099511627776 < now) then
   (t, m)
 else
   bif over then
   bif S.ris t m then
   (now, m)
 else
   bif over then
   (now, 0)
 else
   bif S.ris t m then
   bif decide (t ≤ Go.IntKind.wrap .i64 (now - c.stable)) then
   (-1, 0)
 else
   (t, m)
 else
   (t, m)
 else
   bif over then
   (now, 0)
 else
   bif S.ris t m then
   bif decide (t ≤ Go.IntKind.wrap .i64 (now - c.stable)) then
   (-1, 0)
 else
   (t, m)
 else
   (t, m)
theorem S.rnext_v {R : Type} (t m : Int) (c : Cf) (now : Int) (over : Bool) (k : AVal → List Blk → Option R) : S.rnext_L t m c now over k = (S.rnext_gk t m c now over k) (S.rnext t m c now over) :=
  (show S.rnext_L t m c now over k =
  (bif !S.rmay c then
   (S.rnext_gk t m c now over k) (t, m)
 else
   bif decide (now < 0) then
   (S.rnext_gk t m c now over k) (t, m)
 else
   bif decide (1099511627776 < now) then
   (S.rnext_gk t m c now over k) (t, m)
 else
   bif over then
   bif S.ris t m then
   (S.rnext_gk t m c now over k) (now, m)
 else
   bif over then
   (S.rnext_gk t m c now over k) (now, 0)
 else
   bif S.ris t m then
   bif decide (t ≤ Go.IntKind.wrap .i64 (now - c.stable)) then
   (S.rnext_gk t m c now over k) (-1, 0)
 else
   (S.rnext_gk t m c now over k) (t, m)
 else
   (S.rnext_gk t m c now over k) (t, m)
 else
   bif over then
   (S.rnext_gk t m c now over k) (now, 0)
 else
   bif S.ris t m then
   bif decide (t ≤ Go.IntKind.wrap .i64 (now - c.stable)) then
   (S.rnext_gk t m c now over k) (-1, 0)
 else
   (S.rnext_gk t m c now over k) (t, m)
 else
   (S.rnext_gk t m c now over k) (t, m)) from by kernel_rfl).trans (bif_lift (f := (S.rnext_gk t m c now over k)) rfl (bif_lift (f := (S.rnext_gk t m c now over k)) rfl (bif_lift (f := (S.rnext_gk t m c now over k)) rfl (bif_lift (f := (S.rnext_gk t m c now over k)) (bif_lift (f := (S.rnext_gk t m c now over k)) rfl (bif_lift (f := (S.rnext_gk t m c now over k)) rfl (bif_lift (f := (S.rnext_gk t m c now over k)) (bif_lift (f := (S.rnext_gk t m c now over k)) rfl rfl) rfl))) (bif_lift (f := (S.rnext_gk t m c now over k)) rfl (bif_lift (f := (S.rnext_gk t m c now over k)) (bif_lift (f := (S.rnext_gk t m c now over k)) rfl rfl) rfl))))))
noncomputable def H56 : Hnd := fun R args σ k => match args, σ with
  | [.agg [.int .i64 t, .int .i64 m], .agg [.int .i64 target_, .int .i64 util_, .int .i64 stable_, .int .i64 panic_, .int .i64 grain_, .int .i64 threshold_, .int .i64 up_, .int .i64 down_, .int .i64 min_, .int .i64 max_, .int .i64 initial_, .int .i64 grace_, .int .i64 delay_, .int .i64 burst_, .int .i64 limit_, .int .i64 queue_, .int .i64 timeout_, .int .i64 ready_, .int .i64 subset_, .int .i64 sample_], .int .i64 now, .bool over], [] => k (.agg [(.int .i64 (S.rnext t m ⟨target_, util_, stable_, panic_, grain_, threshold_, up_, down_, min_, max_, initial_, grace_, delay_, burst_, limit_, queue_, timeout_, ready_, subset_, sample_⟩ now over).1), (.int .i64 (S.rnext t m ⟨target_, util_, stable_, panic_, grain_, threshold_, up_, down_, min_, max_, initial_, grace_, delay_, burst_, limit_, queue_, timeout_, ready_, subset_, sample_⟩ now over).2)]) []
  | _, _ => none
theorem H56_ok : HndOk Tryz.prog 56 H56 := hnd_ok tis tisOk mixOk G62_ok F56 Tryz.func56 rfl (by
  intro R args σ k r h
  unfold H56 at h
  split at h
  · rename_i t m target_ util_ stable_ panic_ grain_ threshold_ up_ down_ min_ max_ initial_ grace_ delay_ burst_ limit_ queue_ timeout_ ready_ subset_ sample_ now over; exact ⟨0, (S.rnext_v t m ⟨target_, util_, stable_, panic_, grain_, threshold_, up_, down_, min_, max_, initial_, grace_, delay_, burst_, limit_, queue_, timeout_, ready_, subset_, sample_⟩ now over _).trans h⟩
  · cases h)
noncomputable def G56 : Env := Env.add 56 H56 G62
theorem G56_ok : EnvOk Tryz.prog G56 := envAdd_ok H56_ok G62_ok

/-! spinnakerref12.Excess -/
def F63 : FCfg := ⟨keepAt [(0, [1, 2, 3]), (1, [1, 2, 3, 11]), (2, [6]), (3, [1, 2, 3, 15]), (4, [6]), (5, [3, 7]), (6, [9]), (7, [6])], loopAt [], []⟩
noncomputable def S.rexcess_L {R : Type} (c : Cf) (r q : Int) (k : AVal → List Blk → Option R) : Option R := fnEval tis F63 0 G56 Tryz.f63 [.agg (cfA c), .int .i64 r, .int .i64 q] [] k
noncomputable def S.rexcess_gk {R : Type} (c : Cf) (r q : Int) (k : AVal → List Blk → Option R) : (Int) → Option R := (fun v : Int => k (.int .i64 v) [])
noncomputable def S.rexcess (c : Cf) (r q : Int) : Int :=
  bif !S.rmay c then
   (0)
 else
   bif decide (c.burst = -1000) then
   (-1000)
 else
   (Prod.fst (S.rsub (Prod.fst (S.rsub (Go.IntKind.wrap .i64 (Go.IntKind.wrap .i64 (S.rcut r 0 * c.limit) * 1000)) q)) c.burst))
theorem S.rexcess_v {R : Type} (c : Cf) (r q : Int) (k : AVal → List Blk → Option R) : S.rexcess_L c r q k = (S.rexcess_gk c r q k) (S.rexcess c r q) :=
  (show S.rexcess_L c r q k =
  (bif !S.rmay c then
   (S.rexcess_gk c r q k) (0)
 else
   bif decide (c.burst = -1000) then
   (S.rexcess_gk c r q k) (-1000)
 else
   (S.rexcess_gk c r q k) (Prod.fst (S.rsub (Prod.fst (S.rsub (Go.IntKind.wrap .i64 (Go.IntKind.wrap .i64 (S.rcut r 0 * c.limit) * 1000)) q)) c.burst))) from by kernel_rfl).trans (bif_lift (f := (S.rexcess_gk c r q k)) rfl (bif_lift (f := (S.rexcess_gk c r q k)) rfl rfl))
noncomputable def H63 : Hnd := fun R args σ k => match args, σ with
  | [.agg [.int .i64 target_, .int .i64 util_, .int .i64 stable_, .int .i64 panic_, .int .i64 grain_, .int .i64 threshold_, .int .i64 up_, .int .i64 down_, .int .i64 min_, .int .i64 max_, .int .i64 initial_, .int .i64 grace_, .int .i64 delay_, .int .i64 burst_, .int .i64 limit_, .int .i64 queue_, .int .i64 timeout_, .int .i64 ready_, .int .i64 subset_, .int .i64 sample_], .int .i64 r, .int .i64 q], [] => k (.int .i64 (S.rexcess ⟨target_, util_, stable_, panic_, grain_, threshold_, up_, down_, min_, max_, initial_, grace_, delay_, burst_, limit_, queue_, timeout_, ready_, subset_, sample_⟩ r q)) []
  | _, _ => none
theorem H63_ok : HndOk Tryz.prog 63 H63 := hnd_ok tis tisOk mixOk G56_ok F63 Tryz.func63 rfl (by
  intro R args σ k r h
  unfold H63 at h
  split at h
  · rename_i target_ util_ stable_ panic_ grain_ threshold_ up_ down_ min_ max_ initial_ grace_ delay_ burst_ limit_ queue_ timeout_ ready_ subset_ sample_ r q; exact ⟨0, (S.rexcess_v ⟨target_, util_, stable_, panic_, grain_, threshold_, up_, down_, min_, max_, initial_, grace_, delay_, burst_, limit_, queue_, timeout_, ready_, subset_, sample_⟩ r q _).trans h⟩
  · cases h)
noncomputable def G63 : Env := Env.add 63 H63 G56
theorem G63_ok : EnvOk Tryz.prog G63 := envAdd_ok H63_ok G56_ok

/-! spinnakerref12.NewDelay -/
def F37 : FCfg := ⟨keepAt [(0, [0]), (1, [0, 8]), (2, [2]), (3, [2])], loopAt [], []⟩
noncomputable def S.rdnew_L {R : Type} (sp : Int) (k : AVal → List Blk → Option R) : Option R := fnEval tis F37 0 G63 Tryz.f37 [.int .i64 sp] [] k
noncomputable def S.rdnew_gk {R : Type} (sp : Int) (k : AVal → List Blk → Option R) : ((Unit) ⊕ (Int)) → Option R := (Sum.elim (fun v : Unit => k .nilp []) (fun v : Int => k (.ptr 0 (0) 0) [(.var [(.int .i64 v), .nils])]))
noncomputable def S.rdnew (sp : Int) : (Unit) ⊕ (Int) :=
  bif decide (sp < 0) then
   (.inl ())
 else
   bif decide (600 < sp) then
   (.inl ())
 else
   (.inr (sp))
theorem S.rdnew_v {R : Type} (sp : Int) (k : AVal → List Blk → Option R) : S.rdnew_L sp k = (S.rdnew_gk sp k) (S.rdnew sp) :=
  (show S.rdnew_L sp k =
  (bif decide (sp < 0) then
   (S.rdnew_gk sp k) (.inl ())
 else
   bif decide (600 < sp) then
   (S.rdnew_gk sp k) (.inl ())
 else
   (S.rdnew_gk sp k) (.inr (sp))) from by kernel_rfl).trans (bif_lift (f := (S.rdnew_gk sp k)) rfl (bif_lift (f := (S.rdnew_gk sp k)) rfl rfl))
noncomputable def H37 : Hnd := fun R args σ k => match args, σ with
  | [.int .i64 sp], [] => (Sum.elim (fun v : Unit => k .nilp []) (fun v : Int => k (.ptr 0 (0) 0) [(.var [(.int .i64 v), .nils])])) (S.rdnew sp)
  | _, _ => none
theorem H37_ok : HndOk Tryz.prog 37 H37 := hnd_ok tis tisOk mixOk G63_ok F37 Tryz.func37 rfl (by
  intro R args σ k r h
  unfold H37 at h
  split at h
  · rename_i sp; exact ⟨0, (S.rdnew_v sp _).trans h⟩
  · cases h)
noncomputable def G37 : Env := Env.add 37 H37 G63
theorem G37_ok : EnvOk Tryz.prog G37 := envAdd_ok H37_ok G63_ok

/-! (*spinnakerref12.Delay).Put -/
def F60 : FCfg := ⟨keepAt [(0, [0, 1, 2]), (1, [0, 1, 2, 45]), (2, [6]), (3, []), (4, [6])], loopAt [], [⟨1, false, 0, [], 1, (.pair (.int .i64) (.int .i64)), none⟩, ⟨2, false, 0, [1], 0, .bool, none⟩]⟩
noncomputable def S.rdput_L {R : Type} (r : RL) (lo len : Nat) (sp t w : Int) (k : AVal → List Blk → Option R) : Option R := fnEval tis F60 0 G37 Tryz.f60 [.ptr 0 0 0, .int .i64 t, .int .i64 w] [.var [.int .i64 sp, .slice 2 1 lo len none], .rows (.pair (.int .i64) (.int .i64)) r false] k
noncomputable def S.rdput_gk {R : Type} (r : RL) (lo len : Nat) (sp t w : Int) (k : AVal → List Blk → Option R) : (Int × Int × Nat × Nat × RL) → Option R := (fun v : Int × Int × Nat × Nat × RL => k (.int .i64 v.1) [(.var [(.int .i64 v.2.1), (.slice 2 2 v.2.2.1 v.2.2.2.1 none)]), .dead, (.rows (Cd.pair (Cd.int .i64) (Cd.int .i64)) v.2.2.2.2 false)])
noncomputable def S.rdput (r : RL) (lo len : Nat) (sp t w : Int) : Option (Int × Int × Nat × Nat × RL) :=
  bif decide (t < 0) then
   some (1, sp, lo, len, r)
 else
   bif decide (1099511627776 < t) then
   some (1, sp, lo, len, r)
 else
   bif decide (w < 0) then
   some (1, sp, lo, len, r)
 else
   bif decide (1000000 < w) then
   some (1, sp, lo, len, r)
 else
   bif decide (0 < ((len : Nat) : Int)) then
   bif inB (Go.IntKind.wrap .i64 (((len : Nat) : Int) - 1)) len then
   (optK (r[Int.toNat (Go.IntKind.wrap .i64 (((len : Nat) : Int) - 1)) + lo]?) fun o8 =>
   bif decide (t < o8.1) then
   some (1, sp, lo, len, r)
 else
   bif Nat.beq 2 2 && Nat.blt 0 16 && Nat.beq 2 2 && Nat.beq 2 2 && Nat.beq 2 2 && Nat.blt 0 1 && !Nat.beq 1 2 && Nat.ble ((len + 1) * 16) 35184372088832 then
   some (0, sp, 0, List.length (cutL r lo len ++ cutL [(t, w)] 0 1), cutL r lo len ++ cutL [(t, w)] 0 1)
 else
   none)
 else
   none
 else
   bif Nat.beq 2 2 && Nat.blt 0 16 && Nat.beq 2 2 && Nat.beq 2 2 && Nat.beq 2 2 && Nat.blt 0 1 && !Nat.beq 1 2 && Nat.ble ((len + 1) * 16) 35184372088832 then
   some (0, sp, 0, List.length (cutL r lo len ++ cutL [(t, w)] 0 1), cutL r lo len ++ cutL [(t, w)] 0 1)
 else
   none
theorem S.rdput_v {R : Type} (r : RL) (lo len : Nat) (sp t w : Int) (k : AVal → List Blk → Option R) : S.rdput_L r lo len sp t w k = oK (S.rdput_gk r lo len sp t w k) (S.rdput r lo len sp t w) :=
  (show S.rdput_L r lo len sp t w k =
  (bif decide (t < 0) then
   (S.rdput_gk r lo len sp t w k) (1, sp, lo, len, r)
 else
   bif decide (1099511627776 < t) then
   (S.rdput_gk r lo len sp t w k) (1, sp, lo, len, r)
 else
   bif decide (w < 0) then
   (S.rdput_gk r lo len sp t w k) (1, sp, lo, len, r)
 else
   bif decide (1000000 < w) then
   (S.rdput_gk r lo len sp t w k) (1, sp, lo, len, r)
 else
   bif decide (0 < ((len : Nat) : Int)) then
   bif inB (Go.IntKind.wrap .i64 (((len : Nat) : Int) - 1)) len then
   (optK (r[Int.toNat (Go.IntKind.wrap .i64 (((len : Nat) : Int) - 1)) + lo]?) fun o8 =>
   bif decide (t < o8.1) then
   (S.rdput_gk r lo len sp t w k) (1, sp, lo, len, r)
 else
   bif Nat.beq 2 2 && Nat.blt 0 16 && Nat.beq 2 2 && Nat.beq 2 2 && Nat.beq 2 2 && Nat.blt 0 1 && !Nat.beq 1 2 && Nat.ble ((len + 1) * 16) 35184372088832 then
   (S.rdput_gk r lo len sp t w k) (0, sp, 0, List.length (cutL r lo len ++ cutL [(t, w)] 0 1), cutL r lo len ++ cutL [(t, w)] 0 1)
 else
   none)
 else
   none
 else
   bif Nat.beq 2 2 && Nat.blt 0 16 && Nat.beq 2 2 && Nat.beq 2 2 && Nat.beq 2 2 && Nat.blt 0 1 && !Nat.beq 1 2 && Nat.ble ((len + 1) * 16) 35184372088832 then
   (S.rdput_gk r lo len sp t w k) (0, sp, 0, List.length (cutL r lo len ++ cutL [(t, w)] 0 1), cutL r lo len ++ cutL [(t, w)] 0 1)
 else
   none) from by kernel_rfl).trans (bif_lift (f := (oK (S.rdput_gk r lo len sp t w k))) rfl (bif_lift (f := (oK (S.rdput_gk r lo len sp t w k))) rfl (bif_lift (f := (oK (S.rdput_gk r lo len sp t w k))) rfl (bif_lift (f := (oK (S.rdput_gk r lo len sp t w k))) rfl (bif_lift (f := (oK (S.rdput_gk r lo len sp t w k))) (bif_lift (f := (oK (S.rdput_gk r lo len sp t w k))) (opt_lift fun o8 => (bif_lift (f := (oK (S.rdput_gk r lo len sp t w k))) rfl (bif_lift (f := (oK (S.rdput_gk r lo len sp t w k))) rfl rfl))) rfl) (bif_lift (f := (oK (S.rdput_gk r lo len sp t w k))) rfl rfl))))))
noncomputable def H60 : Hnd := fun R args σ k => match args, σ with
  | [.ptr 0 0 0, .int .i64 t, .int .i64 w], [.var [.int .i64 sp, .slice 2 1 lo len none], .rows (.pair (.int .i64) (.int .i64)) r false] => oK (fun v : Int × Int × Nat × Nat × RL => k (.int .i64 v.1) [(.var [(.int .i64 v.2.1), (.slice 2 2 v.2.2.1 v.2.2.2.1 none)]), .dead, (.rows (Cd.pair (Cd.int .i64) (Cd.int .i64)) v.2.2.2.2 false)]) (S.rdput r lo len sp t w)
  | _, _ => none
theorem H60_ok : HndOk Tryz.prog 60 H60 := hnd_ok tis tisOk mixOk G37_ok F60 Tryz.func60 rfl (by
  intro R args σ k r h
  unfold H60 at h
  split at h
  · rename_i t w sp lo len r; exact ⟨0, (S.rdput_v r lo len sp t w _).trans h⟩
  · cases h)
noncomputable def G60 : Env := Env.add 60 H60 G37
theorem G60_ok : EnvOk Tryz.prog G60 := envAdd_ok H60_ok G37_ok

/-! (*spinnakerref12.Delay).Most -/
def F61 : FCfg := ⟨keepAt [(0, [0, 1]), (1, [0, 1, 5]), (2, [0, 1, 5]), (3, [0, 1, 5, 6]), (4, [0, 1, 5, 6, 17]), (5, [0, 1, 5, 6]), (6, [0, 1, 5, 6, 7]), (7, [0, 1, 5, 6, 7, 43]), (8, [0, 1, 5, 6, 7, 58]), (9, [0, 1, 5, 6]), (10, [4])], loopAt [(4, [0, 1, 5, 6], [])], []⟩
noncomputable def C_rdmost (fu : Nat) (r : RL) (lo len : Nat) (sp t : Int) : Cfg := Cfg.of tis F61 fu (List.length ([.var [.int .i64 sp, .slice 2 1 lo len none], .rows (.pair (.int .i64) (.int .i64)) r false] : List Blk)) Tryz.f61.ntmps
noncomputable def S.rdmost_b0 : Code := codeAt (bodyOf Tryz.f61) [1, 1, 1, 0, 1, 0, 0]
noncomputable def S.rdmost_s0 (r : RL) (lo len : Nat) (sp t : Int) (y0 : Int) (y1 : Int) : St := ⟨[(0, (.ptr 0 (0) 0)), (1, (.int .i64 (if 1099511628377 < if 0 > t then 0 else t then 1099511628377 else if 0 > t then 0 else t))), (5, (.int .i64 (y0))), (6, (.int .i64 (y1)))], [(.var [(.int .i64 (sp)), (.slice 2 1 (lo) (len) none)]), (.rows (Cd.pair (Cd.int .i64) (Cd.int .i64)) (r) false)]⟩
noncomputable def S.rdmost_x0_0 (r : RL) (lo len : Nat) (sp t : Int) (z0 : Int) (z1 : Int) (z2 : Bool) : St := ⟨[(0, (.ptr 0 (0) 0)), (1, (.int .i64 (if 1099511628377 < if 0 > t then 0 else t then 1099511628377 else if 0 > t then 0 else t))), (5, (.int .i64 (z0))), (6, (.int .i64 (z1))), (17, (.bool (z2)))], [(.var [(.int .i64 (sp)), (.slice 2 1 (lo) (len) none)]), (.rows (Cd.pair (Cd.int .i64) (Cd.int .i64)) (r) false)]⟩
noncomputable def S.rdmost_g0 {R : Type} (r : RL) (lo len : Nat) (sp t : Int) (K : Ex → St → Option R) : ((Int × Int × Bool)) → Option R := (fun z : Int × Int × Bool => K (Ex.exit 0) (S.rdmost_x0_0 r lo len sp t (z.1) (z.2.1) (z.2.2)))
noncomputable def S.rdmost_gk {R : Type} (r : RL) (lo len : Nat) (sp t : Int) (k : AVal → List Blk → Option R) : (Int) → Option R := (fun v : Int => k (.int .i64 v) [.var [.int .i64 sp, .slice 2 1 lo len none], .rows (.pair (.int .i64) (.int .i64)) r false])
theorem S.rdmost_l0_k {R : Type} (fu : Nat) (r : RL) (lo len : Nat) (sp t : Int) (n : Nat) (K : Ex → St → Option R) (y0 : Int) (y1 : Int) : loopRun (C_rdmost fu r lo len sp t) G60 S.rdmost_b0 (n + 1) (S.rdmost_s0 r lo len sp t (y0) (y1)) K =
  (bif decide (y1 < ((len : Nat) : Int)) then
   bif inB y1 len then
   (optK (r[Int.toNat y1 + lo]?) fun o4 =>
   bif inB (Go.IntKind.wrap .i64 (((len : Nat) : Int) - 1)) len then
   (optK (r[Int.toNat (Go.IntKind.wrap .i64 (((len : Nat) : Int) - 1)) + lo]?) fun o6 =>
   bif decide (o4.1 < Go.IntKind.wrap .i64 (o6.1 - 600)) then
   loopRun (C_rdmost fu r lo len sp t) G60 S.rdmost_b0 n (S.rdmost_s0 r lo len sp t (y0) (Go.IntKind.wrap .i64 (y1 + 1))) K
 else
   bif decide (Go.IntKind.wrap .i64 ((if 1099511628377 < if 0 > t then 0 else t then 1099511628377 else if 0 > t then 0 else t) - sp) < o4.1) then
   loopRun (C_rdmost fu r lo len sp t) G60 S.rdmost_b0 n (S.rdmost_s0 r lo len sp t (if o4.2 > y0 then o4.2 else y0) (Go.IntKind.wrap .i64 (y1 + 1))) K
 else
   bif decide ((if 1099511628377 < if 0 > t then 0 else t then 1099511628377 else if 0 > t then 0 else t) ≤ o4.1) then
   loopRun (C_rdmost fu r lo len sp t) G60 S.rdmost_b0 n (S.rdmost_s0 r lo len sp t (if o4.2 > y0 then o4.2 else y0) (Go.IntKind.wrap .i64 (y1 + 1))) K
 else
   loopRun (C_rdmost fu r lo len sp t) G60 S.rdmost_b0 n (S.rdmost_s0 r lo len sp t (y0) (Go.IntKind.wrap .i64 (y1 + 1))) K)
 else
   none)
 else
   none
 else
   K (Ex.exit 0) (S.rdmost_x0_0 r lo len sp t (y0) (y1) (decide (y1 < ((len : Nat) : Int))))) := by kernel_rfl
noncomputable def S.rdmost_l0 (fu : Nat) (r : RL) (lo len : Nat) (sp t : Int) : Nat → (Int) → (Int) → Option ((Int × Int × Bool))
  | 0, _, _ => none
  | n + 1, y0, y1 =>
    bif decide (y1 < ((len : Nat) : Int)) then
   bif inB y1 len then
   (optK (r[Int.toNat y1 + lo]?) fun o4 =>
   bif inB (Go.IntKind.wrap .i64 (((len : Nat) : Int) - 1)) len then
   (optK (r[Int.toNat (Go.IntKind.wrap .i64 (((len : Nat) : Int) - 1)) + lo]?) fun o6 =>
   bif decide (o4.1 < Go.IntKind.wrap .i64 (o6.1 - 600)) then
   (S.rdmost_l0 fu r lo len sp t n) (y0) (Go.IntKind.wrap .i64 (y1 + 1))
 else
   bif decide (Go.IntKind.wrap .i64 ((if 1099511628377 < if 0 > t then 0 else t then 1099511628377 else if 0 > t then 0 else t) - sp) < o4.1) then
   (S.rdmost_l0 fu r lo len sp t n) (if o4.2 > y0 then o4.2 else y0) (Go.IntKind.wrap .i64 (y1 + 1))
 else
   bif decide ((if 1099511628377 < if 0 > t then 0 else t then 1099511628377 else if 0 > t then 0 else t) ≤ o4.1) then
   (S.rdmost_l0 fu r lo len sp t n) (if o4.2 > y0 then o4.2 else y0) (Go.IntKind.wrap .i64 (y1 + 1))
 else
   (S.rdmost_l0 fu r lo len sp t n) (y0) (Go.IntKind.wrap .i64 (y1 + 1)))
 else
   none)
 else
   none
 else
   some (y0, y1, decide (y1 < ((len : Nat) : Int)))
theorem S.rdmost_l0_v {R : Type} (fu : Nat) (r : RL) (lo len : Nat) (sp t : Int) (K : Ex → St → Option R) : ∀ (n : Nat) (y0 : Int) (y1 : Int), loopRun (C_rdmost fu r lo len sp t) G60 S.rdmost_b0 n (S.rdmost_s0 r lo len sp t (y0) (y1)) K = oK (β := (Int × Int × Bool)) (S.rdmost_g0 r lo len sp t K) (S.rdmost_l0 fu r lo len sp t n y0 y1)
  | 0, _, _ => rfl
  | n + 1, y0, y1 => (S.rdmost_l0_k fu r lo len sp t n K y0 y1).trans (bif_lift (f := (oK (S.rdmost_g0 r lo len sp t K))) (bif_lift (f := (oK (S.rdmost_g0 r lo len sp t K))) (opt_lift fun o4 => (bif_lift (f := (oK (S.rdmost_g0 r lo len sp t K))) (opt_lift fun o6 => (bif_lift (f := (oK (S.rdmost_g0 r lo len sp t K))) (S.rdmost_l0_v fu r lo len sp t K n (y0) (Go.IntKind.wrap .i64 (y1 + 1))) (bif_lift (f := (oK (S.rdmost_g0 r lo len sp t K))) (S.rdmost_l0_v fu r lo len sp t K n (if o4.2 > y0 then o4.2 else y0) (Go.IntKind.wrap .i64 (y1 + 1))) (bif_lift (f := (oK (S.rdmost_g0 r lo len sp t K))) (S.rdmost_l0_v fu r lo len sp t K n (if o4.2 > y0 then o4.2 else y0) (Go.IntKind.wrap .i64 (y1 + 1))) (S.rdmost_l0_v fu r lo len sp t K n (y0) (Go.IntKind.wrap .i64 (y1 + 1))))))) rfl)) rfl) rfl)
noncomputable def S.rdmost_a0_0 (fu : Nat) (r : RL) (lo len : Nat) (sp t : Int) (z0 : Int) (z1 : Int) (z2 : Bool) : Option (Int) :=
  some (z0)
theorem S.rdmost_a0_0_v {R : Type} (fu : Nat) (r : RL) (lo len : Nat) (sp t : Int) (z0 : Int) (z1 : Int) (z2 : Bool) (k : AVal → List Blk → Option R) : contOf (C_rdmost fu r lo len sp t) G60 (bodyOf Tryz.f61) [1, 1, 1, 0, 1, 0] (retK tis F61 Tryz.f61 (List.length ([.var [.int .i64 sp, .slice 2 1 lo len none], .rows (.pair (.int .i64) (.int .i64)) r false] : List Blk)) k) (Ex.exit 0) (S.rdmost_x0_0 r lo len sp t (z0) (z1) (z2)) = oK (S.rdmost_gk r lo len sp t k) (S.rdmost_a0_0 fu r lo len sp t z0 z1 z2) :=
  (show contOf (C_rdmost fu r lo len sp t) G60 (bodyOf Tryz.f61) [1, 1, 1, 0, 1, 0] (retK tis F61 Tryz.f61 (List.length ([.var [.int .i64 sp, .slice 2 1 lo len none], .rows (.pair (.int .i64) (.int .i64)) r false] : List Blk)) k) (Ex.exit 0) (S.rdmost_x0_0 r lo len sp t (z0) (z1) (z2)) =
  ((S.rdmost_gk r lo len sp t k) (z0)) from by kernel_rfl).trans rfl
noncomputable def S.rdmost_L {R : Type} (fu : Nat) (r : RL) (lo len : Nat) (sp t : Int) (k : AVal → List Blk → Option R) : Option R := fnEval tis F61 fu G60 Tryz.f61 [.ptr 0 0 0, .int .i64 t] [.var [.int .i64 sp, .slice 2 1 lo len none], .rows (.pair (.int .i64) (.int .i64)) r false] k
noncomputable def S.rdmost (fu : Nat) (r : RL) (lo len : Nat) (sp t : Int) : Option (Int) :=
  optK (S.rdmost_l0 fu r lo len sp t fu (0) (0)) (fun z : Int × Int × Bool => S.rdmost_a0_0 fu r lo len sp t (z.1) (z.2.1) (z.2.2))
theorem S.rdmost_v {R : Type} (fu : Nat) (r : RL) (lo len : Nat) (sp t : Int) (k : AVal → List Blk → Option R) : S.rdmost_L fu r lo len sp t k = oK (fun v : Int => k (.int .i64 v) [.var [.int .i64 sp, .slice 2 1 lo len none], .rows (.pair (.int .i64) (.int .i64)) r false]) (S.rdmost fu r lo len sp t) :=
  (show S.rdmost_L fu r lo len sp t k =
  (loopRun (C_rdmost fu r lo len sp t) G60 S.rdmost_b0 fu (S.rdmost_s0 r lo len sp t (0) (0)) (contOf (C_rdmost fu r lo len sp t) G60 (bodyOf Tryz.f61) [1, 1, 1, 0, 1, 0] (retK tis F61 Tryz.f61 (List.length ([.var [.int .i64 sp, .slice 2 1 lo len none], .rows (.pair (.int .i64) (.int .i64)) r false] : List Blk)) k))) from by kernel_rfl).trans (arr_lift (S.rdmost_l0_v fu r lo len sp t (contOf (C_rdmost fu r lo len sp t) G60 (bodyOf Tryz.f61) [1, 1, 1, 0, 1, 0] (retK tis F61 Tryz.f61 (List.length ([.var [.int .i64 sp, .slice 2 1 lo len none], .rows (.pair (.int .i64) (.int .i64)) r false] : List Blk)) k)) fu (0) (0)) ((fun z => S.rdmost_a0_0_v fu r lo len sp t (z.1) (z.2.1) (z.2.2) k)))
noncomputable def H61 : Hnd := fun R args σ k => match args, σ with
  | [.ptr 0 0 0, .int .i64 t], [.var [.int .i64 sp, .slice 2 1 lo len none], .rows (.pair (.int .i64) (.int .i64)) r false] => oK (fun v : Int => k (.int .i64 v) []) (S.rdmost 100000 r lo len sp t)
  | _, _ => none
theorem H61_ok : HndOk Tryz.prog 61 H61 := hnd_ok_pure tis tisOk mixOk G60_ok F61 Tryz.func61 rfl (by
  intro R args σ k r h
  unfold H61 at h
  split at h
  · rename_i t sp lo len r; exact ⟨100000, (S.rdmost_v 100000 r lo len sp t _).trans ((congrArg (fun g9 => oK g9 (S.rdmost 100000 r lo len sp t)) (funext fun v => if_pos rfl)).trans h)⟩
  · cases h)
noncomputable def G61 : Env := Env.add 61 H61 G60
theorem G61_ok : EnvOk Tryz.prog G61 := envAdd_ok H61_ok G60_ok

/-! (*spinnakerref12.Delay).Change -/
def F45 : FCfg := ⟨keepAt [(0, [0, 1]), (1, [0, 1, 10]), (2, [4]), (3, []), (4, [4])], loopAt [], [⟨1, false, 0, [], 1, (.pair (.int .i64) (.int .i64)), none⟩]⟩
noncomputable def S.rdchange_L {R : Type} (r : RL) (lo len : Nat) (sp x : Int) (k : AVal → List Blk → Option R) : Option R := fnEval tis F45 0 G61 Tryz.f45 [.ptr 0 0 0, .int .i64 x] [.var [.int .i64 sp, .slice 2 1 lo len none], .rows (.pair (.int .i64) (.int .i64)) r false] k
noncomputable def S.rdchange_gk {R : Type} (r : RL) (lo len : Nat) (sp x : Int) (k : AVal → List Blk → Option R) : (Int × Int × Nat × Nat × RL) → Option R := (fun v : Int × Int × Nat × Nat × RL => k (.int .i64 v.1) [(.var [(.int .i64 v.2.1), (.slice 2 1 v.2.2.1 v.2.2.2.1 none)]), (.rows (Cd.pair (Cd.int .i64) (Cd.int .i64)) v.2.2.2.2 false)])
noncomputable def S.rdchange (r : RL) (lo len : Nat) (sp x : Int) : Int × Int × Nat × Nat × RL :=
  bif decide (x < 0) then
   (1, sp, lo, len, r)
 else
   bif decide (600 < x) then
   (1, sp, lo, len, r)
 else
   (0, x, lo, len, r)
theorem S.rdchange_v {R : Type} (r : RL) (lo len : Nat) (sp x : Int) (k : AVal → List Blk → Option R) : S.rdchange_L r lo len sp x k = (S.rdchange_gk r lo len sp x k) (S.rdchange r lo len sp x) :=
  (show S.rdchange_L r lo len sp x k =
  (bif decide (x < 0) then
   (S.rdchange_gk r lo len sp x k) (1, sp, lo, len, r)
 else
   bif decide (600 < x) then
   (S.rdchange_gk r lo len sp x k) (1, sp, lo, len, r)
 else
   (S.rdchange_gk r lo len sp x k) (0, x, lo, len, r)) from by kernel_rfl).trans (bif_lift (f := (S.rdchange_gk r lo len sp x k)) rfl (bif_lift (f := (S.rdchange_gk r lo len sp x k)) rfl rfl))
noncomputable def H45 : Hnd := fun R args σ k => match args, σ with
  | [.ptr 0 0 0, .int .i64 x], [.var [.int .i64 sp, .slice 2 1 lo len none], .rows (.pair (.int .i64) (.int .i64)) r false] => k (.int .i64 (S.rdchange r lo len sp x).1) [(.var [(.int .i64 (S.rdchange r lo len sp x).2.1), (.slice 2 1 (S.rdchange r lo len sp x).2.2.1 (S.rdchange r lo len sp x).2.2.2.1 none)]), (.rows (Cd.pair (Cd.int .i64) (Cd.int .i64)) (S.rdchange r lo len sp x).2.2.2.2 false)]
  | _, _ => none
theorem H45_ok : HndOk Tryz.prog 45 H45 := hnd_ok tis tisOk mixOk G61_ok F45 Tryz.func45 rfl (by
  intro R args σ k r h
  unfold H45 at h
  split at h
  · rename_i x sp lo len r; exact ⟨0, (S.rdchange_v r lo len sp x _).trans h⟩
  · cases h)
noncomputable def G45 : Env := Env.add 45 H45 G61
theorem G45_ok : EnvOk Tryz.prog G45 := envAdd_ok H45_ok G61_ok
end Go.Proofs.YtdgipcjigbagfaaGreat.AB
