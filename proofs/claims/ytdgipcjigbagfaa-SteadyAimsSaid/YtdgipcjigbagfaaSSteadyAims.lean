/- SteadyAims, as a plain function. -/
import Derived.Test.YtdgipcjigbagfaaStold26
namespace Go.Proofs.Ytdgipcjigbagfaa.AB
set_option linter.unusedVariables false

/-! spinnakerlaw26.SteadyAims -/
def F5 : FCfg := ⟨keepAt [(0, [1, 2, 3]), (1, [1, 2, 3, 11]), (2, [6]), (3, [1, 2, 3, 15]), (4, [1, 2, 3]), (5, [3, 7, 8]), (6, [6])], loopAt [], []⟩
theorem S.SteadyAims_k {R : Type} (c : Cf) (a b : Int) (k : AVal → List Blk → Option R) : fnEval tis F5 0 G17s Try.f5 [.agg (cfA c), .int .i64 a, .int .i64 b] [] k =
  (bif !S.q_rmay c then
   (optK (S.q_told26) fun o3 =>
   k (.bool o3) ([]))
 else
   bif decide (b < a) then
   (optK (S.q_aim c b) fun o4 =>
   (optK (S.q_aim c a) fun o5 =>
   (optK (S.q_told26) fun o6 =>
   bif o6 then
   bif decide (o4 ≤ o5) then
   bif decide (c.min ≤ o4) then
   bif decide (o5 ≤ S.q_rcmost c) then
   (optK (S.q_aim c 0) fun o11 =>
   bif decide (o11 = c.min) then
   k (.bool (decide (Go.IntKind.wrap .i64 (400 + Go.IntKind.wrap .i64 (2 * c.stable)) ≤ S.tks c))) ([])
 else
   k (.bool false) ([]))
 else
   k (.bool false) ([])
 else
   k (.bool false) ([])
 else
   k (.bool false) ([])
 else
   k (.bool false) ([]))))
 else
   (optK (S.q_aim c a) fun o4 =>
   (optK (S.q_aim c b) fun o5 =>
   (optK (S.q_told26) fun o6 =>
   bif o6 then
   bif decide (o4 ≤ o5) then
   bif decide (c.min ≤ o4) then
   bif decide (o5 ≤ S.q_rcmost c) then
   (optK (S.q_aim c 0) fun o11 =>
   bif decide (o11 = c.min) then
   k (.bool (decide (Go.IntKind.wrap .i64 (400 + Go.IntKind.wrap .i64 (2 * c.stable)) ≤ S.tks c))) ([])
 else
   k (.bool false) ([]))
 else
   k (.bool false) ([])
 else
   k (.bool false) ([])
 else
   k (.bool false) ([])
 else
   k (.bool false) ([]))))) := by kernel_rfl
noncomputable def S.SteadyAims (c : Cf) (a b : Int) : Option (Bool) :=
  bif !S.q_rmay c then
   (optK (S.q_told26) fun o3 =>
   some (o3))
 else
   bif decide (b < a) then
   (optK (S.q_aim c b) fun o4 =>
   (optK (S.q_aim c a) fun o5 =>
   (optK (S.q_told26) fun o6 =>
   bif o6 then
   bif decide (o4 ≤ o5) then
   bif decide (c.min ≤ o4) then
   bif decide (o5 ≤ S.q_rcmost c) then
   (optK (S.q_aim c 0) fun o11 =>
   bif decide (o11 = c.min) then
   some (decide (Go.IntKind.wrap .i64 (400 + Go.IntKind.wrap .i64 (2 * c.stable)) ≤ S.tks c))
 else
   some (false))
 else
   some (false)
 else
   some (false)
 else
   some (false)
 else
   some (false))))
 else
   (optK (S.q_aim c a) fun o4 =>
   (optK (S.q_aim c b) fun o5 =>
   (optK (S.q_told26) fun o6 =>
   bif o6 then
   bif decide (o4 ≤ o5) then
   bif decide (c.min ≤ o4) then
   bif decide (o5 ≤ S.q_rcmost c) then
   (optK (S.q_aim c 0) fun o11 =>
   bif decide (o11 = c.min) then
   some (decide (Go.IntKind.wrap .i64 (400 + Go.IntKind.wrap .i64 (2 * c.stable)) ≤ S.tks c))
 else
   some (false))
 else
   some (false)
 else
   some (false)
 else
   some (false)
 else
   some (false))))
noncomputable def S.SteadyAims_gk {R : Type} (c : Cf) (a b : Int) (k : AVal → List Blk → Option R) : (Bool) → Option R := (fun v : Bool => k (.bool v) [])
theorem S.SteadyAims_v {R : Type} (c : Cf) (a b : Int) (k : AVal → List Blk → Option R) : fnEval tis F5 0 G17s Try.f5 [.agg (cfA c), .int .i64 a, .int .i64 b] [] k = oK (fun v : Bool => k (.bool v) []) (S.SteadyAims c a b) :=
  (S.SteadyAims_k c a b k).trans (bif_lift (f := (oK (S.SteadyAims_gk c a b k))) (opt_lift fun o3 => rfl) (bif_lift (f := (oK (S.SteadyAims_gk c a b k))) (opt_lift fun o4 => (opt_lift fun o5 => (opt_lift fun o6 => (bif_lift (f := (oK (S.SteadyAims_gk c a b k))) (bif_lift (f := (oK (S.SteadyAims_gk c a b k))) (bif_lift (f := (oK (S.SteadyAims_gk c a b k))) (bif_lift (f := (oK (S.SteadyAims_gk c a b k))) (opt_lift fun o11 => (bif_lift (f := (oK (S.SteadyAims_gk c a b k))) rfl rfl)) rfl) rfl) rfl) rfl)))) (opt_lift fun o4 => (opt_lift fun o5 => (opt_lift fun o6 => (bif_lift (f := (oK (S.SteadyAims_gk c a b k))) (bif_lift (f := (oK (S.SteadyAims_gk c a b k))) (bif_lift (f := (oK (S.SteadyAims_gk c a b k))) (bif_lift (f := (oK (S.SteadyAims_gk c a b k))) (opt_lift fun o11 => (bif_lift (f := (oK (S.SteadyAims_gk c a b k))) rfl rfl)) rfl) rfl) rfl) rfl))))))
noncomputable def H5 : Hnd := fun R args σ k => match args, σ with
  | [.agg [.int .i64 target_, .int .i64 util_, .int .i64 stable_, .int .i64 panic_, .int .i64 grain_, .int .i64 threshold_, .int .i64 up_, .int .i64 down_, .int .i64 min_, .int .i64 max_, .int .i64 initial_, .int .i64 grace_, .int .i64 delay_, .int .i64 burst_, .int .i64 limit_, .int .i64 queue_, .int .i64 timeout_, .int .i64 ready_, .int .i64 subset_, .int .i64 sample_], .int .i64 a, .int .i64 b], [] => oK (fun v : Bool => k (.bool v) []) (S.SteadyAims ⟨target_, util_, stable_, panic_, grain_, threshold_, up_, down_, min_, max_, initial_, grace_, delay_, burst_, limit_, queue_, timeout_, ready_, subset_, sample_⟩ a b)
  | _, _ => none
theorem H5_ok : HndOk Try.prog 5 H5 := hnd_ok tis tisOk mixOk G17s_ok F5 Try.func5 rfl (by
  intro R args σ k r h
  unfold H5 at h
  split at h
  · rename_i target_ util_ stable_ panic_ grain_ threshold_ up_ down_ min_ max_ initial_ grace_ delay_ burst_ limit_ queue_ timeout_ ready_ subset_ sample_ a b; exact ⟨0, (S.SteadyAims_v ⟨target_, util_, stable_, panic_, grain_, threshold_, up_, down_, min_, max_, initial_, grace_, delay_, burst_, limit_, queue_, timeout_, ready_, subset_, sample_⟩ a b _).trans h⟩
  · cases h)
noncomputable def G5 : Env := Env.add 5 H5 G17s
theorem G5_ok : EnvOk Try.prog G5 := envAdd_ok H5_ok G17s_ok
end Go.Proofs.Ytdgipcjigbagfaa.AB
