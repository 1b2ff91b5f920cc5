/- What the program tells of a few. -/
import Derived.Test.YtdgipcjigbagfaaSdecide
namespace Go.Proofs.Ytdgipcjigbagfaa.AB
set_option linter.unusedVariables false

/-! spinnakerlaw17.told -/
def F24 : FCfg := ⟨keepAt [(0, []), (1, [1]), (2, [2]), (3, [2, 18]), (4, [0]), (5, [2, 3, 4]), (6, [2, 3, 4, 5]), (7, [2, 3, 4, 5, 6, 7]), (8, [2, 3, 4, 5, 6, 7, 9]), (9, [2, 3, 4, 5, 6, 7, 9, 10]), (10, [2, 3, 4, 5, 6, 7, 9, 10, 11]), (11, [2, 3, 4, 5, 6, 7, 9, 10, 11, 13]), (12, [0])], loopAt [], []⟩
theorem S.told17_k {R : Type}  (k : AVal → List Blk → Option R) : fnEval tis F24 0 G27 Try.f24 [] [] k =
  (k (.bool true) ([])) := by kernel_rfl
noncomputable def S.told17  : Bool :=
  (true)
theorem S.told17_v {R : Type}  (k : AVal → List Blk → Option R) : fnEval tis F24 0 G27 Try.f24 [] [] k = k (.bool (S.told17)) [] :=
  (S.told17_k k).trans rfl
noncomputable def H24 : Hnd := fun R args σ k => match args, σ with
  | [], [] => k (.bool (S.told17)) []
  | _, _ => none
theorem H24_ok : HndOk Try.prog 24 H24 := hnd_ok tis tisOk mixOk G27_ok F24 Try.func24 rfl (by
  intro R args σ k r h
  unfold H24 at h
  split at h
  · exact ⟨0, (S.told17_v _).trans h⟩
  · cases h)
noncomputable def G24 : Env := Env.add 24 H24 G27
theorem G24_ok : EnvOk Try.prog G24 := envAdd_ok H24_ok G27_ok

/-! spinnakerref12.cut -/
def F52 : FCfg := ⟨keepAt [(0, [0, 1]), (1, [4])], loopAt [], []⟩
theorem S.rcut_k {R : Type} (n lo : Int) (k : AVal → List Blk → Option R) : fnEval tis F52 0 G24 Try.f52 [.int .i64 n, .int .i64 lo] [] k =
  (k (.int .i64 (if 1000000 < if lo > n then lo else n then 1000000 else if lo > n then lo else n)) ([])) := by kernel_rfl
noncomputable def S.rcut (n lo : Int) : Int :=
  (if 1000000 < if lo > n then lo else n then 1000000 else if lo > n then lo else n)
theorem S.rcut_v {R : Type} (n lo : Int) (k : AVal → List Blk → Option R) : fnEval tis F52 0 G24 Try.f52 [.int .i64 n, .int .i64 lo] [] k = k (.int .i64 (S.rcut n lo)) [] :=
  (S.rcut_k n lo k).trans rfl
noncomputable def H52 : Hnd := fun R args σ k => match args, σ with
  | [.int .i64 n, .int .i64 lo], [] => k (.int .i64 (S.rcut n lo)) []
  | _, _ => none
theorem H52_ok : HndOk Try.prog 52 H52 := hnd_ok tis tisOk mixOk G24_ok F52 Try.func52 rfl (by
  intro R args σ k r h
  unfold H52 at h
  split at h
  · rename_i n lo; exact ⟨0, (S.rcut_v n lo _).trans h⟩
  · cases h)
noncomputable def G52 : Env := Env.add 52 H52 G24
theorem G52_ok : EnvOk Try.prog G52 := envAdd_ok H52_ok G24_ok

/-! spinnakerref12.Most -/
def F25 : FCfg := ⟨keepAt [(0, [1, 2]), (1, [1, 2, 9]), (2, [4]), (3, [5]), (4, [4])], loopAt [], []⟩
theorem S.rmost_k {R : Type} (c : Cf) (r : Int) (k : AVal → List Blk → Option R) : fnEval tis F25 0 G52 Try.f25 [.agg (cfA c), .int .i64 r] [] k =
  (bif !S.rmay c then
   k (.int .i64 0) ([])
 else
   (optK (S.rup (Go.IntKind.wrap .i64 (c.up * S.rcut r 1)) 1000) fun o3 =>
   k (.int .i64 (if 1000000 < o3.1 then 1000000 else o3.1)) ([]))) := by kernel_rfl
noncomputable def S.rmost (c : Cf) (r : Int) : Option (Int) :=
  bif !S.rmay c then
   some (0)
 else
   (optK (S.rup (Go.IntKind.wrap .i64 (c.up * S.rcut r 1)) 1000) fun o3 =>
   some (if 1000000 < o3.1 then 1000000 else o3.1))
noncomputable def S.rmost_gk {R : Type} (c : Cf) (r : Int) (k : AVal → List Blk → Option R) : (Int) → Option R := (fun v : Int => k (.int .i64 v) [])
theorem S.rmost_v {R : Type} (c : Cf) (r : Int) (k : AVal → List Blk → Option R) : fnEval tis F25 0 G52 Try.f25 [.agg (cfA c), .int .i64 r] [] k = oK (fun v : Int => k (.int .i64 v) []) (S.rmost c r) :=
  (S.rmost_k c r k).trans (bif_lift (f := (oK (S.rmost_gk c r k))) rfl (opt_lift fun o3 => rfl))
noncomputable def H25 : Hnd := fun R args σ k => match args, σ with
  | [.agg [.int .i64 target_, .int .i64 util_, .int .i64 stable_, .int .i64 panic_, .int .i64 grain_, .int .i64 threshold_, .int .i64 up_, .int .i64 down_, .int .i64 min_, .int .i64 max_, .int .i64 initial_, .int .i64 grace_, .int .i64 delay_, .int .i64 burst_, .int .i64 limit_, .int .i64 queue_, .int .i64 timeout_, .int .i64 ready_, .int .i64 subset_, .int .i64 sample_], .int .i64 r], [] => oK (fun v : Int => k (.int .i64 v) []) (S.rmost ⟨target_, util_, stable_, panic_, grain_, threshold_, up_, down_, min_, max_, initial_, grace_, delay_, burst_, limit_, queue_, timeout_, ready_, subset_, sample_⟩ r)
  | _, _ => none
theorem H25_ok : HndOk Try.prog 25 H25 := hnd_ok tis tisOk mixOk G52_ok F25 Try.func25 rfl (by
  intro R args σ k r h
  unfold H25 at h
  split at h
  · rename_i target_ util_ stable_ panic_ grain_ threshold_ up_ down_ min_ max_ initial_ grace_ delay_ burst_ limit_ queue_ timeout_ ready_ subset_ sample_ r; exact ⟨0, (S.rmost_v ⟨target_, util_, stable_, panic_, grain_, threshold_, up_, down_, min_, max_, initial_, grace_, delay_, burst_, limit_, queue_, timeout_, ready_, subset_, sample_⟩ r _).trans h⟩
  · cases h)
noncomputable def G25 : Env := Env.add 25 H25 G52
theorem G25_ok : EnvOk Try.prog G25 := envAdd_ok H25_ok G52_ok

/-! spinnakerref12.Least -/
def F26 : FCfg := ⟨keepAt [(0, [1, 2]), (1, [1, 2, 7]), (2, [4]), (3, [4])], loopAt [], []⟩
theorem S.rleast_k {R : Type} (c : Cf) (r : Int) (k : AVal → List Blk → Option R) : fnEval tis F26 0 G25 Try.f26 [.agg (cfA c), .int .i64 r] [] k =
  (bif !S.rmay c then
   k (.int .i64 0) ([])
 else
   bif decide (c.down = 0) then
   none
 else
   k (.int .i64 (Go.IntKind.wrap .i64 (Int.tdiv (Go.IntKind.wrap .i64 (1000 * S.rcut r 0)) c.down))) ([])) := by kernel_rfl
noncomputable def S.rleast (c : Cf) (r : Int) : Option (Int) :=
  bif !S.rmay c then
   some (0)
 else
   bif decide (c.down = 0) then
   none
 else
   some (Go.IntKind.wrap .i64 (Int.tdiv (Go.IntKind.wrap .i64 (1000 * S.rcut r 0)) c.down))
noncomputable def S.rleast_gk {R : Type} (c : Cf) (r : Int) (k : AVal → List Blk → Option R) : (Int) → Option R := (fun v : Int => k (.int .i64 v) [])
theorem S.rleast_v {R : Type} (c : Cf) (r : Int) (k : AVal → List Blk → Option R) : fnEval tis F26 0 G25 Try.f26 [.agg (cfA c), .int .i64 r] [] k = oK (fun v : Int => k (.int .i64 v) []) (S.rleast c r) :=
  (S.rleast_k c r k).trans (bif_lift (f := (oK (S.rleast_gk c r k))) rfl (bif_lift (f := (oK (S.rleast_gk c r k))) rfl rfl))
noncomputable def H26 : Hnd := fun R args σ k => match args, σ with
  | [.agg [.int .i64 target_, .int .i64 util_, .int .i64 stable_, .int .i64 panic_, .int .i64 grain_, .int .i64 threshold_, .int .i64 up_, .int .i64 down_, .int .i64 min_, .int .i64 max_, .int .i64 initial_, .int .i64 grace_, .int .i64 delay_, .int .i64 burst_, .int .i64 limit_, .int .i64 queue_, .int .i64 timeout_, .int .i64 ready_, .int .i64 subset_, .int .i64 sample_], .int .i64 r], [] => oK (fun v : Int => k (.int .i64 v) []) (S.rleast ⟨target_, util_, stable_, panic_, grain_, threshold_, up_, down_, min_, max_, initial_, grace_, delay_, burst_, limit_, queue_, timeout_, ready_, subset_, sample_⟩ r)
  | _, _ => none
theorem H26_ok : HndOk Try.prog 26 H26 := hnd_ok tis tisOk mixOk G25_ok F26 Try.func26 rfl (by
  intro R args σ k r h
  unfold H26 at h
  split at h
  · rename_i target_ util_ stable_ panic_ grain_ threshold_ up_ down_ min_ max_ initial_ grace_ delay_ burst_ limit_ queue_ timeout_ ready_ subset_ sample_ r; exact ⟨0, (S.rleast_v ⟨target_, util_, stable_, panic_, grain_, threshold_, up_, down_, min_, max_, initial_, grace_, delay_, burst_, limit_, queue_, timeout_, ready_, subset_, sample_⟩ r _).trans h⟩
  · cases h)
noncomputable def G26 : Env := Env.add 26 H26 G25
theorem G26_ok : EnvOk Try.prog G26 := envAdd_ok H26_ok G25_ok
end Go.Proofs.Ytdgipcjigbagfaa.AB
