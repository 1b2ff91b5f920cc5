/- The functions of layer 26, as plain functions. -/
import Derived.Test.YtdgipcjigbagfaaGreatSdecidez
namespace Go.Proofs.YtdgipcjigbagfaaGreat.AB
set_option linter.unusedVariables false

/-! steady.number -/
def F24 : FCfg := ⟨keepAt [(0, [0, 1]), (1, [0, 1, 5, 6]), (2, [0, 1, 5, 13]), (3, [1, 5]), (4, [4])], loopAt [], []⟩
noncomputable def S.snum_L {R : Type} (n m : Int) (k : AVal → List Blk → Option R) : Option R := fnEval tis F24 0 G18s Tryz.f24 [.iface 2 (.int .i64 n), .int .i64 m] [] k
noncomputable def S.snum (n m : Int) : Int :=
  (S.mclamp n 0 m)
theorem S.snum_v {R : Type} (n m : Int) (k : AVal → List Blk → Option R) : S.snum_L n m k = k (.int .i64 (S.snum n m)) [] :=
  (show S.snum_L n m k =
  (k (.int .i64 (S.mclamp n 0 m)) ([])) from by kernel_rfl).trans rfl
noncomputable def S.snum1_L {R : Type} (n m : Int) (k : AVal → List Blk → Option R) : Option R := fnEval tis F24 0 G18s Tryz.f24 [.iface 3 (.int .i64 n), .int .i64 m] [] k
noncomputable def S.snum1 (n m : Int) : Int :=
  (S.mclamp n 0 m)
theorem S.snum1_v {R : Type} (n m : Int) (k : AVal → List Blk → Option R) : S.snum1_L n m k = k (.int .i64 (S.snum1 n m)) [] :=
  (show S.snum1_L n m k =
  (k (.int .i64 (S.mclamp n 0 m)) ([])) from by kernel_rfl).trans rfl
noncomputable def H24 : Hnd := fun R args σ k => match args, σ with
  | [.iface 2 (.int .i64 n), .int .i64 m], [] => k (.int .i64 (S.snum n m)) []
  | [.iface 3 (.int .i64 n), .int .i64 m], [] => k (.int .i64 (S.snum1 n m)) []
  | _, _ => none
theorem H24_ok : HndOk Tryz.prog 24 H24 := hnd_ok tis tisOk mixOk G18s_ok F24 Tryz.func24 rfl (by
  intro R args σ k r h
  unfold H24 at h
  split at h
  · rename_i n m; exact ⟨0, (S.snum_v n m _).trans h⟩
  · rename_i n m; exact ⟨0, (S.snum1_v n m _).trans h⟩
  · cases h)
noncomputable def G24 : Env := Env.add 24 H24 G18s
theorem G24_ok : EnvOk Tryz.prog G24 := envAdd_ok H24_ok G18s_ok

/-! steady.Aim -/
def F8 : FCfg := ⟨keepAt [(0, [1, 2]), (1, [1, 2, 7]), (2, [4]), (3, [4])], loopAt [], []⟩
noncomputable def S.aim_L {R : Type} (c : Cf) (load : Int) (k : AVal → List Blk → Option R) : Option R := fnEval tis F8 0 G24 Tryz.f8 [.agg (cfA c), .int .i64 load] [] k
noncomputable def S.aim_gk {R : Type} (c : Cf) (load : Int) (k : AVal → List Blk → Option R) : (Int) → Option R := (fun v : Int => k (.int .i64 v) [])
noncomputable def S.aim (c : Cf) (load : Int) : Option (Int) :=
  bif !S.may c then
   some (0)
 else
   (optK (S.wof c (if 0 > load then 0 else load)) fun o3 =>
   some (if c.min > if S.cmost c < o3 then S.cmost c else o3 then c.min else if S.cmost c < o3 then S.cmost c else o3))
theorem S.aim_v {R : Type} (c : Cf) (load : Int) (k : AVal → List Blk → Option R) : S.aim_L c load k = oK (S.aim_gk c load k) (S.aim c load) :=
  (show S.aim_L c load k =
  (bif !S.may c then
   (S.aim_gk c load k) (0)
 else
   (optK (S.wof c (if 0 > load then 0 else load)) fun o3 =>
   (S.aim_gk c load k) (if c.min > if S.cmost c < o3 then S.cmost c else o3 then c.min else if S.cmost c < o3 then S.cmost c else o3))) from by kernel_rfl).trans (bif_lift (f := (oK (S.aim_gk c load k))) rfl (opt_lift fun o3 => rfl))
noncomputable def H8 : Hnd := fun R args σ k => match args, σ with
  | [.agg [.int .i64 target_, .int .i64 util_, .int .i64 stable_, .int .i64 panic_, .int .i64 grain_, .int .i64 threshold_, .int .i64 up_, .int .i64 down_, .int .i64 min_, .int .i64 max_, .int .i64 initial_, .int .i64 grace_, .int .i64 delay_, .int .i64 burst_, .int .i64 limit_, .int .i64 queue_, .int .i64 timeout_, .int .i64 ready_, .int .i64 subset_, .int .i64 sample_], .int .i64 load], [] => oK (fun v : Int => k (.int .i64 v) []) (S.aim ⟨target_, util_, stable_, panic_, grain_, threshold_, up_, down_, min_, max_, initial_, grace_, delay_, burst_, limit_, queue_, timeout_, ready_, subset_, sample_⟩ load)
  | _, _ => none
theorem H8_ok : HndOk Tryz.prog 8 H8 := hnd_ok tis tisOk mixOk G24_ok F8 Tryz.func8 rfl (by
  intro R args σ k r h
  unfold H8 at h
  split at h
  · rename_i target_ util_ stable_ panic_ grain_ threshold_ up_ down_ min_ max_ initial_ grace_ delay_ burst_ limit_ queue_ timeout_ ready_ subset_ sample_ load; exact ⟨0, (S.aim_v ⟨target_, util_, stable_, panic_, grain_, threshold_, up_, down_, min_, max_, initial_, grace_, delay_, burst_, limit_, queue_, timeout_, ready_, subset_, sample_⟩ load _).trans h⟩
  · cases h)
noncomputable def G8 : Env := Env.add 8 H8 G24
theorem G8_ok : EnvOk Tryz.prog G8 := envAdd_ok H8_ok G24_ok

/-! steady.Ticks -/
def F10 : FCfg := ⟨keepAt [(0, [1]), (1, [1, 5]), (2, [2]), (3, [2])], loopAt [], []⟩
noncomputable def S.tks_L {R : Type} (c : Cf) (k : AVal → List Blk → Option R) : Option R := fnEval tis F10 0 G8 Tryz.f10 [.agg (cfA c)] [] k
noncomputable def S.tks_gk {R : Type} (c : Cf) (k : AVal → List Blk → Option R) : (Int) → Option R := (fun v : Int => k (.int .i64 v) [])
noncomputable def S.tks (c : Cf) : Int :=
  bif !S.may c then
   (0)
 else
   (Go.IntKind.wrap .i64 (Go.IntKind.wrap .i64 (Go.IntKind.wrap .i64 (400 + Go.IntKind.wrap .i64 (2 * c.stable)) + c.panic) + Go.IntKind.wrap .i64 (40 * c.delay)))
theorem S.tks_v {R : Type} (c : Cf) (k : AVal → List Blk → Option R) : S.tks_L c k = (S.tks_gk c k) (S.tks c) :=
  (show S.tks_L c k =
  (bif !S.may c then
   (S.tks_gk c k) (0)
 else
   (S.tks_gk c k) (Go.IntKind.wrap .i64 (Go.IntKind.wrap .i64 (Go.IntKind.wrap .i64 (400 + Go.IntKind.wrap .i64 (2 * c.stable)) + c.panic) + Go.IntKind.wrap .i64 (40 * c.delay)))) from by kernel_rfl).trans (bif_lift (f := (S.tks_gk c k)) rfl rfl)
noncomputable def H10 : Hnd := fun R args σ k => match args, σ with
  | [.agg [.int .i64 target_, .int .i64 util_, .int .i64 stable_, .int .i64 panic_, .int .i64 grain_, .int .i64 threshold_, .int .i64 up_, .int .i64 down_, .int .i64 min_, .int .i64 max_, .int .i64 initial_, .int .i64 grace_, .int .i64 delay_, .int .i64 burst_, .int .i64 limit_, .int .i64 queue_, .int .i64 timeout_, .int .i64 ready_, .int .i64 subset_, .int .i64 sample_]], [] => k (.int .i64 (S.tks ⟨target_, util_, stable_, panic_, grain_, threshold_, up_, down_, min_, max_, initial_, grace_, delay_, burst_, limit_, queue_, timeout_, ready_, subset_, sample_⟩)) []
  | _, _ => none
theorem H10_ok : HndOk Tryz.prog 10 H10 := hnd_ok tis tisOk mixOk G8_ok F10 Tryz.func10 rfl (by
  intro R args σ k r h
  unfold H10 at h
  split at h
  · rename_i target_ util_ stable_ panic_ grain_ threshold_ up_ down_ min_ max_ initial_ grace_ delay_ burst_ limit_ queue_ timeout_ ready_ subset_ sample_; exact ⟨0, (S.tks_v ⟨target_, util_, stable_, panic_, grain_, threshold_, up_, down_, min_, max_, initial_, grace_, delay_, burst_, limit_, queue_, timeout_, ready_, subset_, sample_⟩ _).trans h⟩
  · cases h)
noncomputable def G10 : Env := Env.add 10 H10 G8
theorem G10_ok : EnvOk Tryz.prog G10 := envAdd_ok H10_ok G8_ok
end Go.Proofs.YtdgipcjigbagfaaGreat.AB
