/- ConfBounds, as a plain function. -/
import Derived.Test.YtjbdlnomjkhhbaaSconf3z
namespace Go.Proofs.Ytjbdlnomjkhhbaa.AB
set_option linter.unusedVariables false

/-! spinnakerlaw3.ConfBounds -/
def F13 : FCfg := ⟨keepAt [(0, [1]), (1, [1, 6]), (2, [2]), (3, [1, 3]), (4, [2])], loopAt [], []⟩
theorem S.ConfBounds_k {R : Type} (c : Cf) (k : AVal → List Blk → Option R) : fnEval tis F13 0 G38s Try.f13 [.agg (cfA c)] [] k =
  (bif !S.q_may (Cf.mk (Cf.target c) (Cf.util c) (Cf.stable c) (Cf.panic c) (Cf.grain c) (Cf.threshold c) (Cf.up c) (Cf.down c) (Cf.min c) (Cf.max c) (Cf.initial c) (Cf.grace c) (Cf.delay c) (Cf.burst c) (Cf.limit c) (Cf.queue c) (Cf.timeout c) (Cf.ready c) (Cf.subset c) (Cf.sample c)) then
    k (.bool true) ([])
  else
    (optK (S.q_per (Cf.mk (Cf.target c) (Cf.util c) (Cf.stable c) (Cf.panic c) (Cf.grain c) (Cf.threshold c) (Cf.up c) (Cf.down c) (Cf.min c) (Cf.max c) (Cf.initial c) (Cf.grace c) (Cf.delay c) (Cf.burst c) (Cf.limit c) (Cf.queue c) (Cf.timeout c) (Cf.ready c) (Cf.subset c) (Cf.sample c))) fun o3 =>
      bif decide (Cf.min c ≤ S.cmost (Cf.mk (Cf.target c) (Cf.util c) (Cf.stable c) (Cf.panic c) (Cf.grain c) (Cf.threshold c) (Cf.up c) (Cf.down c) (Cf.min c) (Cf.max c) (Cf.initial c) (Cf.grace c) (Cf.delay c) (Cf.burst c) (Cf.limit c) (Cf.queue c) (Cf.timeout c) (Cf.ready c) (Cf.subset c) (Cf.sample c))) then
        bif decide (1 ≤ S.cmost (Cf.mk (Cf.target c) (Cf.util c) (Cf.stable c) (Cf.panic c) (Cf.grain c) (Cf.threshold c) (Cf.up c) (Cf.down c) (Cf.min c) (Cf.max c) (Cf.initial c) (Cf.grace c) (Cf.delay c) (Cf.burst c) (Cf.limit c) (Cf.queue c) (Cf.timeout c) (Cf.ready c) (Cf.subset c) (Cf.sample c))) then
          bif decide (S.cmost (Cf.mk (Cf.target c) (Cf.util c) (Cf.stable c) (Cf.panic c) (Cf.grain c) (Cf.threshold c) (Cf.up c) (Cf.down c) (Cf.min c) (Cf.max c) (Cf.initial c) (Cf.grace c) (Cf.delay c) (Cf.burst c) (Cf.limit c) (Cf.queue c) (Cf.timeout c) (Cf.ready c) (Cf.subset c) (Cf.sample c)) ≤ 100) then
            bif decide (Cf.initial c ≤ S.cmost (Cf.mk (Cf.target c) (Cf.util c) (Cf.stable c) (Cf.panic c) (Cf.grain c) (Cf.threshold c) (Cf.up c) (Cf.down c) (Cf.min c) (Cf.max c) (Cf.initial c) (Cf.grace c) (Cf.delay c) (Cf.burst c) (Cf.limit c) (Cf.queue c) (Cf.timeout c) (Cf.ready c) (Cf.subset c) (Cf.sample c))) then
              bif decide (1 ≤ o3) then
                bif decide (o3 ≤ Cf.target c) then
                  bif decide (Go.IntKind.wrap .i64 (o3 * 1000) ≤ Go.IntKind.wrap .i64 (Go.IntKind.wrap .i64 (Cf.target c * Cf.util c) + 999)) then
                    bif decide (Cf.grain c ≤ Cf.panic c) then
                      k (.bool (decide (Cf.panic c ≤ Cf.stable c))) ([])
                    else
                      k (.bool false) ([])
                  else
                    k (.bool false) ([])
                else
                  k (.bool false) ([])
              else
                k (.bool false) ([])
            else
              k (.bool false) ([])
          else
            k (.bool false) ([])
        else
          k (.bool false) ([])
      else
        k (.bool false) ([]))) := by kernel_rfl
noncomputable def S.ConfBounds (c : Cf) : Option (Bool) :=
  bif !S.q_may (Cf.mk (Cf.target c) (Cf.util c) (Cf.stable c) (Cf.panic c) (Cf.grain c) (Cf.threshold c) (Cf.up c) (Cf.down c) (Cf.min c) (Cf.max c) (Cf.initial c) (Cf.grace c) (Cf.delay c) (Cf.burst c) (Cf.limit c) (Cf.queue c) (Cf.timeout c) (Cf.ready c) (Cf.subset c) (Cf.sample c)) then
    some (true)
  else
    (optK (S.q_per (Cf.mk (Cf.target c) (Cf.util c) (Cf.stable c) (Cf.panic c) (Cf.grain c) (Cf.threshold c) (Cf.up c) (Cf.down c) (Cf.min c) (Cf.max c) (Cf.initial c) (Cf.grace c) (Cf.delay c) (Cf.burst c) (Cf.limit c) (Cf.queue c) (Cf.timeout c) (Cf.ready c) (Cf.subset c) (Cf.sample c))) fun o3 =>
      bif decide (Cf.min c ≤ S.cmost (Cf.mk (Cf.target c) (Cf.util c) (Cf.stable c) (Cf.panic c) (Cf.grain c) (Cf.threshold c) (Cf.up c) (Cf.down c) (Cf.min c) (Cf.max c) (Cf.initial c) (Cf.grace c) (Cf.delay c) (Cf.burst c) (Cf.limit c) (Cf.queue c) (Cf.timeout c) (Cf.ready c) (Cf.subset c) (Cf.sample c))) then
        bif decide (1 ≤ S.cmost (Cf.mk (Cf.target c) (Cf.util c) (Cf.stable c) (Cf.panic c) (Cf.grain c) (Cf.threshold c) (Cf.up c) (Cf.down c) (Cf.min c) (Cf.max c) (Cf.initial c) (Cf.grace c) (Cf.delay c) (Cf.burst c) (Cf.limit c) (Cf.queue c) (Cf.timeout c) (Cf.ready c) (Cf.subset c) (Cf.sample c))) then
          bif decide (S.cmost (Cf.mk (Cf.target c) (Cf.util c) (Cf.stable c) (Cf.panic c) (Cf.grain c) (Cf.threshold c) (Cf.up c) (Cf.down c) (Cf.min c) (Cf.max c) (Cf.initial c) (Cf.grace c) (Cf.delay c) (Cf.burst c) (Cf.limit c) (Cf.queue c) (Cf.timeout c) (Cf.ready c) (Cf.subset c) (Cf.sample c)) ≤ 100) then
            bif decide (Cf.initial c ≤ S.cmost (Cf.mk (Cf.target c) (Cf.util c) (Cf.stable c) (Cf.panic c) (Cf.grain c) (Cf.threshold c) (Cf.up c) (Cf.down c) (Cf.min c) (Cf.max c) (Cf.initial c) (Cf.grace c) (Cf.delay c) (Cf.burst c) (Cf.limit c) (Cf.queue c) (Cf.timeout c) (Cf.ready c) (Cf.subset c) (Cf.sample c))) then
              bif decide (1 ≤ o3) then
                bif decide (o3 ≤ Cf.target c) then
                  bif decide (Go.IntKind.wrap .i64 (o3 * 1000) ≤ Go.IntKind.wrap .i64 (Go.IntKind.wrap .i64 (Cf.target c * Cf.util c) + 999)) then
                    bif decide (Cf.grain c ≤ Cf.panic c) then
                      some (decide (Cf.panic c ≤ Cf.stable c))
                    else
                      some (false)
                  else
                    some (false)
                else
                  some (false)
              else
                some (false)
            else
              some (false)
          else
            some (false)
        else
          some (false)
      else
        some (false))
theorem S.ConfBounds_v {R : Type} (c : Cf) (k : AVal → List Blk → Option R) : fnEval tis F13 0 G38s Try.f13 [.agg (cfA c)] [] k = oK (fun v : Bool => k (.bool v) []) (S.ConfBounds c) :=
  (S.ConfBounds_k c k).trans (bif_lift (f := (oK (fun v : Bool => k (.bool v) []))) rfl (opt_lift fun o3 => (bif_lift (f := (oK (fun v : Bool => k (.bool v) []))) (bif_lift (f := (oK (fun v : Bool => k (.bool v) []))) (bif_lift (f := (oK (fun v : Bool => k (.bool v) []))) (bif_lift (f := (oK (fun v : Bool => k (.bool v) []))) (bif_lift (f := (oK (fun v : Bool => k (.bool v) []))) (bif_lift (f := (oK (fun v : Bool => k (.bool v) []))) (bif_lift (f := (oK (fun v : Bool => k (.bool v) []))) (bif_lift (f := (oK (fun v : Bool => k (.bool v) []))) rfl rfl) rfl) rfl) rfl) rfl) rfl) rfl) rfl)))
noncomputable def H13 : Hnd := fun R args σ k => match args, σ with
  | [.agg [.int .i64 target_, .int .i64 util_, .int .i64 stable_, .int .i64 panic_, .int .i64 grain_, .int .i64 threshold_, .int .i64 up_, .int .i64 down_, .int .i64 min_, .int .i64 max_, .int .i64 initial_, .int .i64 grace_, .int .i64 delay_, .int .i64 burst_, .int .i64 limit_, .int .i64 queue_, .int .i64 timeout_, .int .i64 ready_, .int .i64 subset_, .int .i64 sample_]], [] => oK (fun v : Bool => k (.bool v) []) (S.ConfBounds ⟨target_, util_, stable_, panic_, grain_, threshold_, up_, down_, min_, max_, initial_, grace_, delay_, burst_, limit_, queue_, timeout_, ready_, subset_, sample_⟩)
  | _, _ => none
theorem H13_ok : HndOk Try.prog 13 H13 := hnd_ok tis tisOk mixOk G38s_ok F13 Try.func13 rfl (by
  intro R args σ k r h
  unfold H13 at h
  split at h
  · rename_i target_ util_ stable_ panic_ grain_ threshold_ up_ down_ min_ max_ initial_ grace_ delay_ burst_ limit_ queue_ timeout_ ready_ subset_ sample_; exact ⟨0, (S.ConfBounds_v ⟨target_, util_, stable_, panic_, grain_, threshold_, up_, down_, min_, max_, initial_, grace_, delay_, burst_, limit_, queue_, timeout_, ready_, subset_, sample_⟩ _).trans h⟩
  · cases h)
noncomputable def G13 : Env := Env.add 13 H13 G38s
theorem G13_ok : EnvOk Try.prog G13 := envAdd_ok H13_ok G38s_ok
end Go.Proofs.Ytjbdlnomjkhhbaa.AB
