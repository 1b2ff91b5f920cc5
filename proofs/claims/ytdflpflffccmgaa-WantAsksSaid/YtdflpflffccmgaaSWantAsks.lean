/- WantAsks, as a plain function. -/
import Derived.Test.YtdflpflffccmgaaSwantz
namespace Go.Proofs.Ytdflpflffccmgaa.AB
set_option linter.unusedVariables false

/-! spinnakerlaw12.WantAsks -/
def F6 : FCfg := ⟨keepAt [(0, [1, 2, 3, 4]), (1, [8])], loopAt [], []⟩
theorem S.WantAsks_k {R : Type} (c : Cf) (m w r : Int) (k : AVal → List Blk → Option R) : fnEval tis F6 0 G27s Try.f6 [.agg (cfA c), .int .i64 m, .int .i64 w, .int .i64 r] [] k =
  ((optK (S.q_wof (Cf.mk (Cf.target c) (Cf.util c) (Cf.stable c) (Cf.panic c) (Cf.grain c) (Cf.threshold c) (Cf.up c) (Cf.down c) (Cf.min c) (Cf.max c) (Cf.initial c) (Cf.grace c) (Cf.delay c) (Cf.burst c) (Cf.limit c) (Cf.queue c) (Cf.timeout c) (Cf.ready c) (Cf.subset c) (Cf.sample c)) m) fun o2 =>
    (optK (S.q_rof (Cf.mk (Cf.target c) (Cf.util c) (Cf.stable c) (Cf.panic c) (Cf.grain c) (Cf.threshold c) (Cf.up c) (Cf.down c) (Cf.min c) (Cf.max c) (Cf.initial c) (Cf.grace c) (Cf.delay c) (Cf.burst c) (Cf.limit c) (Cf.queue c) (Cf.timeout c) (Cf.ready c) (Cf.subset c) (Cf.sample c)) m) fun o3 =>
      bif decide (o2 = o3) then
        k (.bool (S.q_wover (Cf.mk (Cf.target c) (Cf.util c) (Cf.stable c) (Cf.panic c) (Cf.grain c) (Cf.threshold c) (Cf.up c) (Cf.down c) (Cf.min c) (Cf.max c) (Cf.initial c) (Cf.grace c) (Cf.delay c) (Cf.burst c) (Cf.limit c) (Cf.queue c) (Cf.timeout c) (Cf.ready c) (Cf.subset c) (Cf.sample c)) w r == S.q_rover (Cf.mk (Cf.target c) (Cf.util c) (Cf.stable c) (Cf.panic c) (Cf.grain c) (Cf.threshold c) (Cf.up c) (Cf.down c) (Cf.min c) (Cf.max c) (Cf.initial c) (Cf.grace c) (Cf.delay c) (Cf.burst c) (Cf.limit c) (Cf.queue c) (Cf.timeout c) (Cf.ready c) (Cf.subset c) (Cf.sample c)) w r)) ([])
      else
        k (.bool false) ([])))) := by kernel_rfl
noncomputable def S.WantAsks (c : Cf) (m w r : Int) : Option (Bool) :=
  (optK (S.q_wof (Cf.mk (Cf.target c) (Cf.util c) (Cf.stable c) (Cf.panic c) (Cf.grain c) (Cf.threshold c) (Cf.up c) (Cf.down c) (Cf.min c) (Cf.max c) (Cf.initial c) (Cf.grace c) (Cf.delay c) (Cf.burst c) (Cf.limit c) (Cf.queue c) (Cf.timeout c) (Cf.ready c) (Cf.subset c) (Cf.sample c)) m) fun o2 =>
    (optK (S.q_rof (Cf.mk (Cf.target c) (Cf.util c) (Cf.stable c) (Cf.panic c) (Cf.grain c) (Cf.threshold c) (Cf.up c) (Cf.down c) (Cf.min c) (Cf.max c) (Cf.initial c) (Cf.grace c) (Cf.delay c) (Cf.burst c) (Cf.limit c) (Cf.queue c) (Cf.timeout c) (Cf.ready c) (Cf.subset c) (Cf.sample c)) m) fun o3 =>
      bif decide (o2 = o3) then
        some (S.q_wover (Cf.mk (Cf.target c) (Cf.util c) (Cf.stable c) (Cf.panic c) (Cf.grain c) (Cf.threshold c) (Cf.up c) (Cf.down c) (Cf.min c) (Cf.max c) (Cf.initial c) (Cf.grace c) (Cf.delay c) (Cf.burst c) (Cf.limit c) (Cf.queue c) (Cf.timeout c) (Cf.ready c) (Cf.subset c) (Cf.sample c)) w r == S.q_rover (Cf.mk (Cf.target c) (Cf.util c) (Cf.stable c) (Cf.panic c) (Cf.grain c) (Cf.threshold c) (Cf.up c) (Cf.down c) (Cf.min c) (Cf.max c) (Cf.initial c) (Cf.grace c) (Cf.delay c) (Cf.burst c) (Cf.limit c) (Cf.queue c) (Cf.timeout c) (Cf.ready c) (Cf.subset c) (Cf.sample c)) w r)
      else
        some (false)))
theorem S.WantAsks_v {R : Type} (c : Cf) (m w r : Int) (k : AVal → List Blk → Option R) : fnEval tis F6 0 G27s Try.f6 [.agg (cfA c), .int .i64 m, .int .i64 w, .int .i64 r] [] k = oK (fun v : Bool => k (.bool v) []) (S.WantAsks c m w r) :=
  (S.WantAsks_k c m w r k).trans (opt_lift fun o2 => (opt_lift fun o3 => (bif_lift (f := (oK (fun v : Bool => k (.bool v) []))) rfl rfl)))
noncomputable def H6 : Hnd := fun R args σ k => match args, σ with
  | [.agg [.int .i64 target_, .int .i64 util_, .int .i64 stable_, .int .i64 panic_, .int .i64 grain_, .int .i64 threshold_, .int .i64 up_, .int .i64 down_, .int .i64 min_, .int .i64 max_, .int .i64 initial_, .int .i64 grace_, .int .i64 delay_, .int .i64 burst_, .int .i64 limit_, .int .i64 queue_, .int .i64 timeout_, .int .i64 ready_, .int .i64 subset_, .int .i64 sample_], .int .i64 m, .int .i64 w, .int .i64 r], [] => oK (fun v : Bool => k (.bool v) []) (S.WantAsks ⟨target_, util_, stable_, panic_, grain_, threshold_, up_, down_, min_, max_, initial_, grace_, delay_, burst_, limit_, queue_, timeout_, ready_, subset_, sample_⟩ m w r)
  | _, _ => none
theorem H6_ok : HndOk Try.prog 6 H6 := hnd_ok tis tisOk mixOk G27s_ok F6 Try.func6 rfl (by
  intro R args σ k r h
  unfold H6 at h
  split at h
  · rename_i target_ util_ stable_ panic_ grain_ threshold_ up_ down_ min_ max_ initial_ grace_ delay_ burst_ limit_ queue_ timeout_ ready_ subset_ sample_ m w r; exact ⟨0, (S.WantAsks_v ⟨target_, util_, stable_, panic_, grain_, threshold_, up_, down_, min_, max_, initial_, grace_, delay_, burst_, limit_, queue_, timeout_, ready_, subset_, sample_⟩ m w r _).trans h⟩
  · cases h)
noncomputable def G6 : Env := Env.add 6 H6 G27s
theorem G6_ok : EnvOk Try.prog G6 := envAdd_ok H6_ok G27s_ok
end Go.Proofs.Ytdflpflffccmgaa.AB
