/- What the program tells of a few. -/
import Derived.Test.YtdgipcjigbagfaaGreatSdecide
namespace Go.Proofs.YtdgipcjigbagfaaGreat.AB
set_option linter.unusedVariables false

/-! spinnakerlaw17.told -/
def F14 : FCfg := ⟨keepAt [(0, []), (1, [1]), (2, [2]), (3, [2, 18]), (4, [0]), (5, [2, 3, 4]), (6, [2, 3, 4, 5]), (7, [2, 3, 4, 5, 6, 7]), (8, [2, 3, 4, 5, 6, 7, 9]), (9, [2, 3, 4, 5, 6, 7, 9, 10]), (10, [2, 3, 4, 5, 6, 7, 9, 10, 11]), (11, [2, 3, 4, 5, 6, 7, 9, 10, 11, 13]), (12, [0])], loopAt [], []⟩
noncomputable def S.told17_L {R : Type}  (k : AVal → List Blk → Option R) : Option R := fnEval tis F14 0 G22 Tryz.f14 [] [] k
noncomputable def S.told17  : Bool :=
  (true)
theorem S.told17_v {R : Type}  (k : AVal → List Blk → Option R) : S.told17_L k = k (.bool (S.told17)) [] :=
  (show S.told17_L k =
  (k (.bool true) ([])) from by kernel_rfl).trans rfl
noncomputable def H14 : Hnd := fun R args σ k => match args, σ with
  | [], [] => k (.bool (S.told17)) []
  | _, _ => none
theorem H14_ok : HndOk Tryz.prog 14 H14 := hnd_ok tis tisOk mixOk G22_ok F14 Tryz.func14 rfl (by
  intro R args σ k r h
  unfold H14 at h
  split at h
  · exact ⟨0, (S.told17_v _).trans h⟩
  · cases h)
noncomputable def G14 : Env := Env.add 14 H14 G22
theorem G14_ok : EnvOk Tryz.prog G14 := envAdd_ok H14_ok G22_ok

/-! spinnakerref12.cut -/
def F91 : FCfg := ⟨keepAt [(0, [0, 1]), (1, [4])], loopAt [], []⟩
noncomputable def S.rcut_L {R : Type} (n lo : Int) (k : AVal → List Blk → Option R) : Option R := fnEval tis F91 0 G14 Tryz.f91 [.int .i64 n, .int .i64 lo] [] k
noncomputable def S.rcut (n lo : Int) : Int :=
  (if 1000000 < if lo > n then lo else n then 1000000 else if lo > n then lo else n)
theorem S.rcut_v {R : Type} (n lo : Int) (k : AVal → List Blk → Option R) : S.rcut_L n lo k = k (.int .i64 (S.rcut n lo)) [] :=
  (show S.rcut_L n lo k =
  (k (.int .i64 (if 1000000 < if lo > n then lo else n then 1000000 else if lo > n then lo else n)) ([])) from by kernel_rfl).trans rfl
noncomputable def H91 : Hnd := fun R args σ k => match args, σ with
  | [.int .i64 n, .int .i64 lo], [] => k (.int .i64 (S.rcut n lo)) []
  | _, _ => none
theorem H91_ok : HndOk Tryz.prog 91 H91 := hnd_ok tis tisOk mixOk G14_ok F91 Tryz.func91 rfl (by
  intro R args σ k r h
  unfold H91 at h
  split at h
  · rename_i n lo; exact ⟨0, (S.rcut_v n lo _).trans h⟩
  · cases h)
noncomputable def G91 : Env := Env.add 91 H91 G14
theorem G91_ok : EnvOk Tryz.prog G91 := envAdd_ok H91_ok G14_ok

/-! spinnakerref12.Most -/
def F93 : FCfg := ⟨keepAt [(0, [1, 2]), (1, [1, 2, 9]), (2, [4]), (3, [5]), (4, [4])], loopAt [], []⟩
noncomputable def S.rmost_L {R : Type} (c : Cf) (r : Int) (k : AVal → List Blk → Option R) : Option R := fnEval tis F93 0 G91 Tryz.f93 [.agg (cfA c), .int .i64 r] [] k
noncomputable def S.rmost_gk {R : Type} (c : Cf) (r : Int) (k : AVal → List Blk → Option R) : (Int) → Option R := (fun v : Int => k (.int .i64 v) [])
noncomputable def S.rmost (c : Cf) (r : Int) : Option (Int) :=
  bif !S.rmay c then
   some (0)
 else
   (optK (S.rup (Go.IntKind.wrap .i64 (c.up * S.rcut r 1)) 1000) fun o3 =>
   some (if 1000000 < o3.1 then 1000000 else o3.1))
theorem S.rmost_v {R : Type} (c : Cf) (r : Int) (k : AVal → List Blk → Option R) : S.rmost_L c r k = oK (S.rmost_gk c r k) (S.rmost c r) :=
  (show S.rmost_L c r k =
  (bif !S.rmay c then
   (S.rmost_gk c r k) (0)
 else
   (optK (S.rup (Go.IntKind.wrap .i64 (c.up * S.rcut r 1)) 1000) fun o3 =>
   (S.rmost_gk c r k) (if 1000000 < o3.1 then 1000000 else o3.1))) from by kernel_rfl).trans (bif_lift (f := (oK (S.rmost_gk c r k))) rfl (opt_lift fun o3 => rfl))
noncomputable def H93 : Hnd := fun R args σ k => match args, σ with
  | [.agg [.int .i64 target_, .int .i64 util_, .int .i64 stable_, .int .i64 panic_, .int .i64 grain_, .int .i64 threshold_, .int .i64 up_, .int .i64 down_, .int .i64 min_, .int .i64 max_, .int .i64 initial_, .int .i64 grace_, .int .i64 delay_, .int .i64 burst_, .int .i64 limit_, .int .i64 queue_, .int .i64 timeout_, .int .i64 ready_, .int .i64 subset_, .int .i64 sample_], .int .i64 r], [] => oK (fun v : Int => k (.int .i64 v) []) (S.rmost ⟨target_, util_, stable_, panic_, grain_, threshold_, up_, down_, min_, max_, initial_, grace_, delay_, burst_, limit_, queue_, timeout_, ready_, subset_, sample_⟩ r)
  | _, _ => none
theorem H93_ok : HndOk Tryz.prog 93 H93 := hnd_ok tis tisOk mixOk G91_ok F93 Tryz.func93 rfl (by
  intro R args σ k r h
  unfold H93 at h
  split at h
  · rename_i target_ util_ stable_ panic_ grain_ threshold_ up_ down_ min_ max_ initial_ grace_ delay_ burst_ limit_ queue_ timeout_ ready_ subset_ sample_ r; exact ⟨0, (S.rmost_v ⟨target_, util_, stable_, panic_, grain_, threshold_, up_, down_, min_, max_, initial_, grace_, delay_, burst_, limit_, queue_, timeout_, ready_, subset_, sample_⟩ r _).trans h⟩
  · cases h)
noncomputable def G93 : Env := Env.add 93 H93 G91
theorem G93_ok : EnvOk Tryz.prog G93 := envAdd_ok H93_ok G91_ok

/-! spinnakerref12.Least -/
def F92 : FCfg := ⟨keepAt [(0, [1, 2]), (1, [1, 2, 7]), (2, [4]), (3, [4])], loopAt [], []⟩
noncomputable def S.rleast_L {R : Type} (c : Cf) (r : Int) (k : AVal → List Blk → Option R) : Option R := fnEval tis F92 0 G93 Tryz.f92 [.agg (cfA c), .int .i64 r] [] k
noncomputable def S.rleast_gk {R : Type} (c : Cf) (r : Int) (k : AVal → List Blk → Option R) : (Int) → Option R := (fun v : Int => k (.int .i64 v) [])
noncomputable def S.rleast (c : Cf) (r : Int) : Option (Int) :=
  bif !S.rmay c then
   some (0)
 else
   bif decide (c.down = 0) then
   none
 else
   some (Go.IntKind.wrap .i64 (Int.tdiv (Go.IntKind.wrap .i64 (1000 * S.rcut r 0)) c.down))
theorem S.rleast_v {R : Type} (c : Cf) (r : Int) (k : AVal → List Blk → Option R) : S.rleast_L c r k = oK (S.rleast_gk c r k) (S.rleast c r) :=
  (show S.rleast_L c r k =
  (bif !S.rmay c then
   (S.rleast_gk c r k) (0)
 else
   bif decide (c.down = 0) then
   none
 else
   (S.rleast_gk c r k) (Go.IntKind.wrap .i64 (Int.tdiv (Go.IntKind.wrap .i64 (1000 * S.rcut r 0)) c.down))) from by kernel_rfl).trans (bif_lift (f := (oK (S.rleast_gk c r k))) rfl (bif_lift (f := (oK (S.rleast_gk c r k))) rfl rfl))
noncomputable def H92 : Hnd := fun R args σ k => match args, σ with
  | [.agg [.int .i64 target_, .int .i64 util_, .int .i64 stable_, .int .i64 panic_, .int .i64 grain_, .int .i64 threshold_, .int .i64 up_, .int .i64 down_, .int .i64 min_, .int .i64 max_, .int .i64 initial_, .int .i64 grace_, .int .i64 delay_, .int .i64 burst_, .int .i64 limit_, .int .i64 queue_, .int .i64 timeout_, .int .i64 ready_, .int .i64 subset_, .int .i64 sample_], .int .i64 r], [] => oK (fun v : Int => k (.int .i64 v) []) (S.rleast ⟨target_, util_, stable_, panic_, grain_, threshold_, up_, down_, min_, max_, initial_, grace_, delay_, burst_, limit_, queue_, timeout_, ready_, subset_, sample_⟩ r)
  | _, _ => none
theorem H92_ok : HndOk Tryz.prog 92 H92 := hnd_ok tis tisOk mixOk G93_ok F92 Tryz.func92 rfl (by
  intro R args σ k r h
  unfold H92 at h
  split at h
  · rename_i target_ util_ stable_ panic_ grain_ threshold_ up_ down_ min_ max_ initial_ grace_ delay_ burst_ limit_ queue_ timeout_ ready_ subset_ sample_ r; exact ⟨0, (S.rleast_v ⟨target_, util_, stable_, panic_, grain_, threshold_, up_, down_, min_, max_, initial_, grace_, delay_, burst_, limit_, queue_, timeout_, ready_, subset_, sample_⟩ r _).trans h⟩
  · cases h)
noncomputable def G92 : Env := Env.add 92 H92 G93
theorem G92_ok : EnvOk Tryz.prog G92 := envAdd_ok H92_ok G93_ok
end Go.Proofs.YtdgipcjigbagfaaGreat.AB
