/- RateAsks, as a plain function. -/
import Derived.Test.YtdcfjndlmmldpaaSratez
namespace Go.Proofs.Ytdcfjndlmmldpaa.AB
set_option linter.unusedVariables false

/-! spinnakerlaw13.RateAsks -/
def F11 : FCfg := ⟨keepAt [(0, [1, 2, 3]), (1, [6])], loopAt [], []⟩
theorem S.RateAsks_k {R : Type} (c : Cf) (w r : Int) (k : AVal → List Blk → Option R) : fnEval tis F11 0 G35s Try.f11 [.agg (cfA c), .int .i64 w, .int .i64 r] [] k =
  ((optK (S.q_most (Cf.mk (Cf.target c) (Cf.util c) (Cf.stable c) (Cf.panic c) (Cf.grain c) (Cf.threshold c) (Cf.up c) (Cf.down c) (Cf.min c) (Cf.max c) (Cf.initial c) (Cf.grace c) (Cf.delay c) (Cf.burst c) (Cf.limit c) (Cf.queue c) (Cf.timeout c) (Cf.ready c) (Cf.subset c) (Cf.sample c)) r) fun o2 =>
    (optK (S.q_rmost (Cf.mk (Cf.target c) (Cf.util c) (Cf.stable c) (Cf.panic c) (Cf.grain c) (Cf.threshold c) (Cf.up c) (Cf.down c) (Cf.min c) (Cf.max c) (Cf.initial c) (Cf.grace c) (Cf.delay c) (Cf.burst c) (Cf.limit c) (Cf.queue c) (Cf.timeout c) (Cf.ready c) (Cf.subset c) (Cf.sample c)) r) fun o3 =>
      bif decide (o2 = o3) then
        (optK (S.q_least (Cf.mk (Cf.target c) (Cf.util c) (Cf.stable c) (Cf.panic c) (Cf.grain c) (Cf.threshold c) (Cf.up c) (Cf.down c) (Cf.min c) (Cf.max c) (Cf.initial c) (Cf.grace c) (Cf.delay c) (Cf.burst c) (Cf.limit c) (Cf.queue c) (Cf.timeout c) (Cf.ready c) (Cf.subset c) (Cf.sample c)) r) fun o5 =>
          (optK (S.q_rleast (Cf.mk (Cf.target c) (Cf.util c) (Cf.stable c) (Cf.panic c) (Cf.grain c) (Cf.threshold c) (Cf.up c) (Cf.down c) (Cf.min c) (Cf.max c) (Cf.initial c) (Cf.grace c) (Cf.delay c) (Cf.burst c) (Cf.limit c) (Cf.queue c) (Cf.timeout c) (Cf.ready c) (Cf.subset c) (Cf.sample c)) r) fun o6 =>
            bif decide (o5 = o6) then
              (optK (S.q_limit (Cf.mk (Cf.target c) (Cf.util c) (Cf.stable c) (Cf.panic c) (Cf.grain c) (Cf.threshold c) (Cf.up c) (Cf.down c) (Cf.min c) (Cf.max c) (Cf.initial c) (Cf.grace c) (Cf.delay c) (Cf.burst c) (Cf.limit c) (Cf.queue c) (Cf.timeout c) (Cf.ready c) (Cf.subset c) (Cf.sample c)) w r) fun o8 =>
                (optK (S.q_rlimit (Cf.mk (Cf.target c) (Cf.util c) (Cf.stable c) (Cf.panic c) (Cf.grain c) (Cf.threshold c) (Cf.up c) (Cf.down c) (Cf.min c) (Cf.max c) (Cf.initial c) (Cf.grace c) (Cf.delay c) (Cf.burst c) (Cf.limit c) (Cf.queue c) (Cf.timeout c) (Cf.ready c) (Cf.subset c) (Cf.sample c)) w r) fun o9 =>
                  k (.bool (decide (o8 = o9))) ([])))
            else
              k (.bool false) ([])))
      else
        k (.bool false) ([])))) := by kernel_rfl
noncomputable def S.RateAsks (c : Cf) (w r : Int) : Option (Bool) :=
  (optK (S.q_most (Cf.mk (Cf.target c) (Cf.util c) (Cf.stable c) (Cf.panic c) (Cf.grain c) (Cf.threshold c) (Cf.up c) (Cf.down c) (Cf.min c) (Cf.max c) (Cf.initial c) (Cf.grace c) (Cf.delay c) (Cf.burst c) (Cf.limit c) (Cf.queue c) (Cf.timeout c) (Cf.ready c) (Cf.subset c) (Cf.sample c)) r) fun o2 =>
    (optK (S.q_rmost (Cf.mk (Cf.target c) (Cf.util c) (Cf.stable c) (Cf.panic c) (Cf.grain c) (Cf.threshold c) (Cf.up c) (Cf.down c) (Cf.min c) (Cf.max c) (Cf.initial c) (Cf.grace c) (Cf.delay c) (Cf.burst c) (Cf.limit c) (Cf.queue c) (Cf.timeout c) (Cf.ready c) (Cf.subset c) (Cf.sample c)) r) fun o3 =>
      bif decide (o2 = o3) then
        (optK (S.q_least (Cf.mk (Cf.target c) (Cf.util c) (Cf.stable c) (Cf.panic c) (Cf.grain c) (Cf.threshold c) (Cf.up c) (Cf.down c) (Cf.min c) (Cf.max c) (Cf.initial c) (Cf.grace c) (Cf.delay c) (Cf.burst c) (Cf.limit c) (Cf.queue c) (Cf.timeout c) (Cf.ready c) (Cf.subset c) (Cf.sample c)) r) fun o5 =>
          (optK (S.q_rleast (Cf.mk (Cf.target c) (Cf.util c) (Cf.stable c) (Cf.panic c) (Cf.grain c) (Cf.threshold c) (Cf.up c) (Cf.down c) (Cf.min c) (Cf.max c) (Cf.initial c) (Cf.grace c) (Cf.delay c) (Cf.burst c) (Cf.limit c) (Cf.queue c) (Cf.timeout c) (Cf.ready c) (Cf.subset c) (Cf.sample c)) r) fun o6 =>
            bif decide (o5 = o6) then
              (optK (S.q_limit (Cf.mk (Cf.target c) (Cf.util c) (Cf.stable c) (Cf.panic c) (Cf.grain c) (Cf.threshold c) (Cf.up c) (Cf.down c) (Cf.min c) (Cf.max c) (Cf.initial c) (Cf.grace c) (Cf.delay c) (Cf.burst c) (Cf.limit c) (Cf.queue c) (Cf.timeout c) (Cf.ready c) (Cf.subset c) (Cf.sample c)) w r) fun o8 =>
                (optK (S.q_rlimit (Cf.mk (Cf.target c) (Cf.util c) (Cf.stable c) (Cf.panic c) (Cf.grain c) (Cf.threshold c) (Cf.up c) (Cf.down c) (Cf.min c) (Cf.max c) (Cf.initial c) (Cf.grace c) (Cf.delay c) (Cf.burst c) (Cf.limit c) (Cf.queue c) (Cf.timeout c) (Cf.ready c) (Cf.subset c) (Cf.sample c)) w r) fun o9 =>
                  some (decide (o8 = o9))))
            else
              some (false)))
      else
        some (false)))
theorem S.RateAsks_v {R : Type} (c : Cf) (w r : Int) (k : AVal → List Blk → Option R) : fnEval tis F11 0 G35s Try.f11 [.agg (cfA c), .int .i64 w, .int .i64 r] [] k = oK (fun v : Bool => k (.bool v) []) (S.RateAsks c w r) :=
  (S.RateAsks_k c w r k).trans (opt_lift fun o2 => (opt_lift fun o3 => (bif_lift (f := (oK (fun v : Bool => k (.bool v) []))) (opt_lift fun o5 => (opt_lift fun o6 => (bif_lift (f := (oK (fun v : Bool => k (.bool v) []))) (opt_lift fun o8 => (opt_lift fun o9 => rfl)) rfl))) rfl)))
noncomputable def H11 : Hnd := fun R args σ k => match args, σ with
  | [.agg [.int .i64 target_, .int .i64 util_, .int .i64 stable_, .int .i64 panic_, .int .i64 grain_, .int .i64 threshold_, .int .i64 up_, .int .i64 down_, .int .i64 min_, .int .i64 max_, .int .i64 initial_, .int .i64 grace_, .int .i64 delay_, .int .i64 burst_, .int .i64 limit_, .int .i64 queue_, .int .i64 timeout_, .int .i64 ready_, .int .i64 subset_, .int .i64 sample_], .int .i64 w, .int .i64 r], [] => oK (fun v : Bool => k (.bool v) []) (S.RateAsks ⟨target_, util_, stable_, panic_, grain_, threshold_, up_, down_, min_, max_, initial_, grace_, delay_, burst_, limit_, queue_, timeout_, ready_, subset_, sample_⟩ w r)
  | _, _ => none
theorem H11_ok : HndOk Try.prog 11 H11 := hnd_ok tis tisOk mixOk G35s_ok F11 Try.func11 rfl (by
  intro R args σ k r h
  unfold H11 at h
  split at h
  · rename_i target_ util_ stable_ panic_ grain_ threshold_ up_ down_ min_ max_ initial_ grace_ delay_ burst_ limit_ queue_ timeout_ ready_ subset_ sample_ w r; exact ⟨0, (S.RateAsks_v ⟨target_, util_, stable_, panic_, grain_, threshold_, up_, down_, min_, max_, initial_, grace_, delay_, burst_, limit_, queue_, timeout_, ready_, subset_, sample_⟩ w r _).trans h⟩
  · cases h)
noncomputable def G11 : Env := Env.add 11 H11 G35s
theorem G11_ok : EnvOk Try.prog G11 := envAdd_ok H11_ok G35s_ok
end Go.Proofs.Ytdcfjndlmmldpaa.AB
