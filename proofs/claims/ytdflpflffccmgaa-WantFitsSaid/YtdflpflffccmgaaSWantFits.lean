/- WantFits, as a plain function. -/
import Derived.Test.YtdflpflffccmgaaSwantz
namespace Go.Proofs.Ytdflpflffccmgaa.AB
set_option linter.unusedVariables false

/-! spinnakerlaw12.WantFits -/
def F7 : FCfg := ⟨keepAt [(0, [1, 2]), (1, [1, 2, 10]), (2, [4]), (3, [2, 5]), (4, [2, 5, 6]), (5, [5, 6, 7]), (6, [5, 6, 7, 27]), (7, [4]), (8, [4])], loopAt [], []⟩
theorem S.WantFits_k {R : Type} (c : Cf) (m : Int) (k : AVal → List Blk → Option R) : fnEval tis F7 0 G27s Try.f7 [.agg (cfA c), .int .i64 m] [] k =
  (bif !S.q_rmay (Cf.mk (Cf.target c) (Cf.util c) (Cf.stable c) (Cf.panic c) (Cf.grain c) (Cf.threshold c) (Cf.up c) (Cf.down c) (Cf.min c) (Cf.max c) (Cf.initial c) (Cf.grace c) (Cf.delay c) (Cf.burst c) (Cf.limit c) (Cf.queue c) (Cf.timeout c) (Cf.ready c) (Cf.subset c) (Cf.sample c)) then
    k (.bool true) ([])
  else
    (optK (S.q_wof (Cf.mk (Cf.target c) (Cf.util c) (Cf.stable c) (Cf.panic c) (Cf.grain c) (Cf.threshold c) (Cf.up c) (Cf.down c) (Cf.min c) (Cf.max c) (Cf.initial c) (Cf.grace c) (Cf.delay c) (Cf.burst c) (Cf.limit c) (Cf.queue c) (Cf.timeout c) (Cf.ready c) (Cf.subset c) (Cf.sample c)) (Go.IntKind.wrap .i64 (Int.tmod (Go.IntKind.wrap .u64 m) 1000000000))) fun o3 =>
      bif decide (o3 = 1000000) then
        k (.bool (decide (Go.IntKind.wrap .i64 (Go.IntKind.wrap .i64 (o3 - 1) * if 1 > Go.IntKind.wrap .i64 (Int.tdiv (Go.IntKind.wrap .i64 (Cf.target c * Cf.util c)) 1000) then 1 else Go.IntKind.wrap .i64 (Int.tdiv (Go.IntKind.wrap .i64 (Cf.target c * Cf.util c)) 1000)) < Go.IntKind.wrap .i64 (Int.tmod (Go.IntKind.wrap .u64 m) 1000000000)))) ([])
      else
        bif decide (Go.IntKind.wrap .i64 (Int.tmod (Go.IntKind.wrap .u64 m) 1000000000) ≤ Go.IntKind.wrap .i64 (o3 * if 1 > Go.IntKind.wrap .i64 (Int.tdiv (Go.IntKind.wrap .i64 (Cf.target c * Cf.util c)) 1000) then 1 else Go.IntKind.wrap .i64 (Int.tdiv (Go.IntKind.wrap .i64 (Cf.target c * Cf.util c)) 1000))) then
          bif decide (o3 = 0) then
            k (.bool true) ([])
          else
            k (.bool (decide (Go.IntKind.wrap .i64 (Go.IntKind.wrap .i64 (o3 - 1) * if 1 > Go.IntKind.wrap .i64 (Int.tdiv (Go.IntKind.wrap .i64 (Cf.target c * Cf.util c)) 1000) then 1 else Go.IntKind.wrap .i64 (Int.tdiv (Go.IntKind.wrap .i64 (Cf.target c * Cf.util c)) 1000)) < Go.IntKind.wrap .i64 (Int.tmod (Go.IntKind.wrap .u64 m) 1000000000)))) ([])
        else
          k (.bool false) ([]))) := by kernel_rfl
noncomputable def S.WantFits (c : Cf) (m : Int) : Option (Bool) :=
  bif !S.q_rmay (Cf.mk (Cf.target c) (Cf.util c) (Cf.stable c) (Cf.panic c) (Cf.grain c) (Cf.threshold c) (Cf.up c) (Cf.down c) (Cf.min c) (Cf.max c) (Cf.initial c) (Cf.grace c) (Cf.delay c) (Cf.burst c) (Cf.limit c) (Cf.queue c) (Cf.timeout c) (Cf.ready c) (Cf.subset c) (Cf.sample c)) then
    some (true)
  else
    (optK (S.q_wof (Cf.mk (Cf.target c) (Cf.util c) (Cf.stable c) (Cf.panic c) (Cf.grain c) (Cf.threshold c) (Cf.up c) (Cf.down c) (Cf.min c) (Cf.max c) (Cf.initial c) (Cf.grace c) (Cf.delay c) (Cf.burst c) (Cf.limit c) (Cf.queue c) (Cf.timeout c) (Cf.ready c) (Cf.subset c) (Cf.sample c)) (Go.IntKind.wrap .i64 (Int.tmod (Go.IntKind.wrap .u64 m) 1000000000))) fun o3 =>
      bif decide (o3 = 1000000) then
        some (decide (Go.IntKind.wrap .i64 (Go.IntKind.wrap .i64 (o3 - 1) * if 1 > Go.IntKind.wrap .i64 (Int.tdiv (Go.IntKind.wrap .i64 (Cf.target c * Cf.util c)) 1000) then 1 else Go.IntKind.wrap .i64 (Int.tdiv (Go.IntKind.wrap .i64 (Cf.target c * Cf.util c)) 1000)) < Go.IntKind.wrap .i64 (Int.tmod (Go.IntKind.wrap .u64 m) 1000000000)))
      else
        bif decide (Go.IntKind.wrap .i64 (Int.tmod (Go.IntKind.wrap .u64 m) 1000000000) ≤ Go.IntKind.wrap .i64 (o3 * if 1 > Go.IntKind.wrap .i64 (Int.tdiv (Go.IntKind.wrap .i64 (Cf.target c * Cf.util c)) 1000) then 1 else Go.IntKind.wrap .i64 (Int.tdiv (Go.IntKind.wrap .i64 (Cf.target c * Cf.util c)) 1000))) then
          bif decide (o3 = 0) then
            some (true)
          else
            some (decide (Go.IntKind.wrap .i64 (Go.IntKind.wrap .i64 (o3 - 1) * if 1 > Go.IntKind.wrap .i64 (Int.tdiv (Go.IntKind.wrap .i64 (Cf.target c * Cf.util c)) 1000) then 1 else Go.IntKind.wrap .i64 (Int.tdiv (Go.IntKind.wrap .i64 (Cf.target c * Cf.util c)) 1000)) < Go.IntKind.wrap .i64 (Int.tmod (Go.IntKind.wrap .u64 m) 1000000000)))
        else
          some (false))
theorem S.WantFits_v {R : Type} (c : Cf) (m : Int) (k : AVal → List Blk → Option R) : fnEval tis F7 0 G27s Try.f7 [.agg (cfA c), .int .i64 m] [] k = oK (fun v : Bool => k (.bool v) []) (S.WantFits c m) :=
  (S.WantFits_k c m k).trans (bif_lift (f := (oK (fun v : Bool => k (.bool v) []))) rfl (opt_lift fun o3 => (bif_lift (f := (oK (fun v : Bool => k (.bool v) []))) rfl (bif_lift (f := (oK (fun v : Bool => k (.bool v) []))) (bif_lift (f := (oK (fun v : Bool => k (.bool v) []))) rfl rfl) rfl))))
noncomputable def H7 : Hnd := fun R args σ k => match args, σ with
  | [.agg [.int .i64 target_, .int .i64 util_, .int .i64 stable_, .int .i64 panic_, .int .i64 grain_, .int .i64 threshold_, .int .i64 up_, .int .i64 down_, .int .i64 min_, .int .i64 max_, .int .i64 initial_, .int .i64 grace_, .int .i64 delay_, .int .i64 burst_, .int .i64 limit_, .int .i64 queue_, .int .i64 timeout_, .int .i64 ready_, .int .i64 subset_, .int .i64 sample_], .int .i64 m], [] => oK (fun v : Bool => k (.bool v) []) (S.WantFits ⟨target_, util_, stable_, panic_, grain_, threshold_, up_, down_, min_, max_, initial_, grace_, delay_, burst_, limit_, queue_, timeout_, ready_, subset_, sample_⟩ m)
  | _, _ => none
theorem H7_ok : HndOk Try.prog 7 H7 := hnd_ok tis tisOk mixOk G27s_ok F7 Try.func7 rfl (by
  intro R args σ k r h
  unfold H7 at h
  split at h
  · rename_i target_ util_ stable_ panic_ grain_ threshold_ up_ down_ min_ max_ initial_ grace_ delay_ burst_ limit_ queue_ timeout_ ready_ subset_ sample_ m; exact ⟨0, (S.WantFits_v ⟨target_, util_, stable_, panic_, grain_, threshold_, up_, down_, min_, max_, initial_, grace_, delay_, burst_, limit_, queue_, timeout_, ready_, subset_, sample_⟩ m _).trans h⟩
  · cases h)
noncomputable def G7 : Env := Env.add 7 H7 G27s
theorem G7_ok : EnvOk Try.prog G7 := envAdd_ok H7_ok G27s_ok
end Go.Proofs.Ytdflpflffccmgaa.AB
