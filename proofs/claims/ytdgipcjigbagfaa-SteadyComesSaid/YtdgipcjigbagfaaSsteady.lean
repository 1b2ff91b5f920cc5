/- The functions of layer 26, as plain functions. -/
import Derived.Test.YtdgipcjigbagfaaSdecidez
namespace Go.Proofs.Ytdgipcjigbagfaa.AB
set_option linter.unusedVariables false

/-! steady.number -/
def F31 : FCfg := ⟨keepAt [(0, [0, 1]), (1, [0, 1, 5, 6]), (2, [0, 1, 5, 13]), (3, [1, 5]), (4, [4])], loopAt [], []⟩
theorem S.snum_k {R : Type} (n m : Int) (k : AVal → List Blk → Option R) : fnEval tis F31 0 G26s Try.f31 [.iface 2 (.int .i64 n), .int .i64 m] [] k =
  (k (.int .i64 (S.mclamp n 0 m)) ([])) := by kernel_rfl
noncomputable def S.snum (n m : Int) : Int :=
  (S.mclamp n 0 m)
theorem S.snum_v {R : Type} (n m : Int) (k : AVal → List Blk → Option R) : fnEval tis F31 0 G26s Try.f31 [.iface 2 (.int .i64 n), .int .i64 m] [] k = k (.int .i64 (S.snum n m)) [] :=
  (S.snum_k n m k).trans rfl
theorem S.snum1_k {R : Type} (n m : Int) (k : AVal → List Blk → Option R) : fnEval tis F31 0 G26s Try.f31 [.iface 3 (.int .i64 n), .int .i64 m] [] k =
  (k (.int .i64 (S.mclamp n 0 m)) ([])) := by kernel_rfl
noncomputable def S.snum1 (n m : Int) : Int :=
  (S.mclamp n 0 m)
theorem S.snum1_v {R : Type} (n m : Int) (k : AVal → List Blk → Option R) : fnEval tis F31 0 G26s Try.f31 [.iface 3 (.int .i64 n), .int .i64 m] [] k = k (.int .i64 (S.snum1 n m)) [] :=
  (S.snum1_k n m k).trans rfl
noncomputable def H31 : Hnd := fun R args σ k => match args, σ with
  | [.iface 2 (.int .i64 n), .int .i64 m], [] => k (.int .i64 (S.snum n m)) []
  | [.iface 3 (.int .i64 n), .int .i64 m], [] => k (.int .i64 (S.snum1 n m)) []
  | _, _ => none
theorem H31_ok : HndOk Try.prog 31 H31 := hnd_ok tis tisOk mixOk G26s_ok F31 Try.func31 rfl (by
  intro R args σ k r h
  unfold H31 at h
  split at h
  · rename_i n m; exact ⟨0, (S.snum_v n m _).trans h⟩
  · rename_i n m; exact ⟨0, (S.snum1_v n m _).trans h⟩
  · cases h)
noncomputable def G31 : Env := Env.add 31 H31 G26s
theorem G31_ok : EnvOk Try.prog G31 := envAdd_ok H31_ok G26s_ok

/-! steady.Aim -/
def F17 : FCfg := ⟨keepAt [(0, [1, 2]), (1, [1, 2, 7]), (2, [4]), (3, [4])], loopAt [], []⟩
theorem S.aim_k {R : Type} (c : Cf) (load : Int) (k : AVal → List Blk → Option R) : fnEval tis F17 0 G31 Try.f17 [.agg (cfA c), .int .i64 load] [] k =
  (bif !S.may c then
   k (.int .i64 0) ([])
 else
   (optK (S.wof c (if 0 > load then 0 else load)) fun o3 =>
   k (.int .i64 (if c.min > if S.cmost c < o3 then S.cmost c else o3 then c.min else if S.cmost c < o3 then S.cmost c else o3)) ([]))) := by kernel_rfl
noncomputable def S.aim (c : Cf) (load : Int) : Option (Int) :=
  bif !S.may c then
   some (0)
 else
   (optK (S.wof c (if 0 > load then 0 else load)) fun o3 =>
   some (if c.min > if S.cmost c < o3 then S.cmost c else o3 then c.min else if S.cmost c < o3 then S.cmost c else o3))
noncomputable def S.aim_gk {R : Type} (c : Cf) (load : Int) (k : AVal → List Blk → Option R) : (Int) → Option R := (fun v : Int => k (.int .i64 v) [])
theorem S.aim_v {R : Type} (c : Cf) (load : Int) (k : AVal → List Blk → Option R) : fnEval tis F17 0 G31 Try.f17 [.agg (cfA c), .int .i64 load] [] k = oK (fun v : Int => k (.int .i64 v) []) (S.aim c load) :=
  (S.aim_k c load k).trans (bif_lift (f := (oK (S.aim_gk c load k))) rfl (opt_lift fun o3 => rfl))
noncomputable def H17 : Hnd := fun R args σ k => match args, σ with
  | [.agg [.int .i64 target_, .int .i64 util_, .int .i64 stable_, .int .i64 panic_, .int .i64 grain_, .int .i64 threshold_, .int .i64 up_, .int .i64 down_, .int .i64 min_, .int .i64 max_, .int .i64 initial_, .int .i64 grace_, .int .i64 delay_, .int .i64 burst_, .int .i64 limit_, .int .i64 queue_, .int .i64 timeout_, .int .i64 ready_, .int .i64 subset_, .int .i64 sample_], .int .i64 load], [] => oK (fun v : Int => k (.int .i64 v) []) (S.aim ⟨target_, util_, stable_, panic_, grain_, threshold_, up_, down_, min_, max_, initial_, grace_, delay_, burst_, limit_, queue_, timeout_, ready_, subset_, sample_⟩ load)
  | _, _ => none
theorem H17_ok : HndOk Try.prog 17 H17 := hnd_ok tis tisOk mixOk G31_ok F17 Try.func17 rfl (by
  intro R args σ k r h
  unfold H17 at h
  split at h
  · rename_i target_ util_ stable_ panic_ grain_ threshold_ up_ down_ min_ max_ initial_ grace_ delay_ burst_ limit_ queue_ timeout_ ready_ subset_ sample_ load; exact ⟨0, (S.aim_v ⟨target_, util_, stable_, panic_, grain_, threshold_, up_, down_, min_, max_, initial_, grace_, delay_, burst_, limit_, queue_, timeout_, ready_, subset_, sample_⟩ load _).trans h⟩
  · cases h)
noncomputable def G17 : Env := Env.add 17 H17 G31
theorem G17_ok : EnvOk Try.prog G17 := envAdd_ok H17_ok G31_ok

/-! steady.Ticks -/
def F15 : FCfg := ⟨keepAt [(0, [1]), (1, [1, 5]), (2, [2]), (3, [2])], loopAt [], []⟩
theorem S.tks_k {R : Type} (c : Cf) (k : AVal → List Blk → Option R) : fnEval tis F15 0 G17 Try.f15 [.agg (cfA c)] [] k =
  (bif !S.may c then
   k (.int .i64 0) ([])
 else
   k (.int .i64 (Go.IntKind.wrap .i64 (Go.IntKind.wrap .i64 (Go.IntKind.wrap .i64 (400 + Go.IntKind.wrap .i64 (2 * c.stable)) + c.panic) + Go.IntKind.wrap .i64 (40 * c.delay)))) ([])) := by kernel_rfl
noncomputable def S.tks (c : Cf) : Int :=
  bif !S.may c then
   (0)
 else
   (Go.IntKind.wrap .i64 (Go.IntKind.wrap .i64 (Go.IntKind.wrap .i64 (400 + Go.IntKind.wrap .i64 (2 * c.stable)) + c.panic) + Go.IntKind.wrap .i64 (40 * c.delay)))
noncomputable def S.tks_gk {R : Type} (c : Cf) (k : AVal → List Blk → Option R) : (Int) → Option R := (fun v : Int => k (.int .i64 v) [])
theorem S.tks_v {R : Type} (c : Cf) (k : AVal → List Blk → Option R) : fnEval tis F15 0 G17 Try.f15 [.agg (cfA c)] [] k = k (.int .i64 (S.tks c)) [] :=
  (S.tks_k c k).trans (bif_lift (f := (S.tks_gk c k)) rfl rfl)
noncomputable def H15 : Hnd := fun R args σ k => match args, σ with
  | [.agg [.int .i64 target_, .int .i64 util_, .int .i64 stable_, .int .i64 panic_, .int .i64 grain_, .int .i64 threshold_, .int .i64 up_, .int .i64 down_, .int .i64 min_, .int .i64 max_, .int .i64 initial_, .int .i64 grace_, .int .i64 delay_, .int .i64 burst_, .int .i64 limit_, .int .i64 queue_, .int .i64 timeout_, .int .i64 ready_, .int .i64 subset_, .int .i64 sample_]], [] => k (.int .i64 (S.tks ⟨target_, util_, stable_, panic_, grain_, threshold_, up_, down_, min_, max_, initial_, grace_, delay_, burst_, limit_, queue_, timeout_, ready_, subset_, sample_⟩)) []
  | _, _ => none
theorem H15_ok : HndOk Try.prog 15 H15 := hnd_ok tis tisOk mixOk G17_ok F15 Try.func15 rfl (by
  intro R args σ k r h
  unfold H15 at h
  split at h
  · rename_i target_ util_ stable_ panic_ grain_ threshold_ up_ down_ min_ max_ initial_ grace_ delay_ burst_ limit_ queue_ timeout_ ready_ subset_ sample_; exact ⟨0, (S.tks_v ⟨target_, util_, stable_, panic_, grain_, threshold_, up_, down_, min_, max_, initial_, grace_, delay_, burst_, limit_, queue_, timeout_, ready_, subset_, sample_⟩ _).trans h⟩
  · cases h)
noncomputable def G15 : Env := Env.add 15 H15 G17
theorem G15_ok : EnvOk Try.prog G15 := envAdd_ok H15_ok G17_ok
end Go.Proofs.Ytdgipcjigbagfaa.AB
