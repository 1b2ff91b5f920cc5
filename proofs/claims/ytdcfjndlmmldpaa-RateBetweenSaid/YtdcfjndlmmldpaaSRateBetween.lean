/- RateBetween, as a plain function. -/
import Derived.Test.YtdcfjndlmmldpaaSratez
namespace Go.Proofs.Ytdcfjndlmmldpaa.AB
set_option linter.unusedVariables false

/-! spinnakerlaw13.RateBetween -/
def F12 : FCfg := ⟨keepAt [(0, [1, 2, 3]), (1, [1, 2, 3, 14]), (2, [6]), (3, [3, 7, 8]), (4, [7, 8, 9, 10, 11]), (5, [6])], loopAt [], []⟩
theorem S.RateBetween_k {R : Type} (c : Cf) (w r : Int) (k : AVal → List Blk → Option R) : fnEval tis F12 0 G35s Try.f12 [.agg (cfA c), .int .i64 w, .int .i64 r] [] k =
  (bif !S.q_rmay (Cf.mk (Cf.target c) (Cf.util c) (Cf.stable c) (Cf.panic c) (Cf.grain c) (Cf.threshold c) (Cf.up c) (Cf.down c) (Cf.min c) (Cf.max c) (Cf.initial c) (Cf.grace c) (Cf.delay c) (Cf.burst c) (Cf.limit c) (Cf.queue c) (Cf.timeout c) (Cf.ready c) (Cf.subset c) (Cf.sample c)) then
    k (.bool true) ([])
  else
    (optK (S.q_least (Cf.mk (Cf.target c) (Cf.util c) (Cf.stable c) (Cf.panic c) (Cf.grain c) (Cf.threshold c) (Cf.up c) (Cf.down c) (Cf.min c) (Cf.max c) (Cf.initial c) (Cf.grace c) (Cf.delay c) (Cf.burst c) (Cf.limit c) (Cf.queue c) (Cf.timeout c) (Cf.ready c) (Cf.subset c) (Cf.sample c)) (Go.IntKind.wrap .i64 (Int.tmod (Go.IntKind.wrap .u64 r) 10000))) fun o3 =>
      (optK (S.q_most (Cf.mk (Cf.target c) (Cf.util c) (Cf.stable c) (Cf.panic c) (Cf.grain c) (Cf.threshold c) (Cf.up c) (Cf.down c) (Cf.min c) (Cf.max c) (Cf.initial c) (Cf.grace c) (Cf.delay c) (Cf.burst c) (Cf.limit c) (Cf.queue c) (Cf.timeout c) (Cf.ready c) (Cf.subset c) (Cf.sample c)) (Go.IntKind.wrap .i64 (Int.tmod (Go.IntKind.wrap .u64 r) 10000))) fun o4 =>
        (optK (S.q_limit (Cf.mk (Cf.target c) (Cf.util c) (Cf.stable c) (Cf.panic c) (Cf.grain c) (Cf.threshold c) (Cf.up c) (Cf.down c) (Cf.min c) (Cf.max c) (Cf.initial c) (Cf.grace c) (Cf.delay c) (Cf.burst c) (Cf.limit c) (Cf.queue c) (Cf.timeout c) (Cf.ready c) (Cf.subset c) (Cf.sample c)) (Go.IntKind.wrap .i64 (Int.tmod (Go.IntKind.wrap .u64 w) 10000)) (Go.IntKind.wrap .i64 (Int.tmod (Go.IntKind.wrap .u64 r) 10000))) fun o5 =>
          bif decide (o3 ≤ Go.IntKind.wrap .i64 (Int.tmod (Go.IntKind.wrap .u64 r) 10000)) then
            bif decide (Go.IntKind.wrap .i64 (Int.tmod (Go.IntKind.wrap .u64 r) 10000) < o4) then
              bif decide (Go.IntKind.wrap .i64 (Int.tmod (Go.IntKind.wrap .u64 r) 10000) = 0) then
                bif decide (o3 ≤ o5) then
                  bif decide (o5 ≤ o4) then
                    bif decide (Go.IntKind.wrap .i64 (Int.tmod (Go.IntKind.wrap .u64 w) 10000) < o3) then
                      k (.bool true) ([])
                    else
                      bif decide (o4 < Go.IntKind.wrap .i64 (Int.tmod (Go.IntKind.wrap .u64 w) 10000)) then
                        k (.bool true) ([])
                      else
                        k (.bool (decide (o5 = Go.IntKind.wrap .i64 (Int.tmod (Go.IntKind.wrap .u64 w) 10000)))) ([])
                  else
                    k (.bool false) ([])
                else
                  k (.bool false) ([])
              else
                bif decide (o3 < Go.IntKind.wrap .i64 (Int.tmod (Go.IntKind.wrap .u64 r) 10000)) then
                  bif decide (o3 ≤ o5) then
                    bif decide (o5 ≤ o4) then
                      bif decide (Go.IntKind.wrap .i64 (Int.tmod (Go.IntKind.wrap .u64 w) 10000) < o3) then
                        k (.bool true) ([])
                      else
                        bif decide (o4 < Go.IntKind.wrap .i64 (Int.tmod (Go.IntKind.wrap .u64 w) 10000)) then
                          k (.bool true) ([])
                        else
                          k (.bool (decide (o5 = Go.IntKind.wrap .i64 (Int.tmod (Go.IntKind.wrap .u64 w) 10000)))) ([])
                    else
                      k (.bool false) ([])
                  else
                    k (.bool false) ([])
                else
                  k (.bool false) ([])
            else
              k (.bool false) ([])
          else
            k (.bool false) ([]))))) := by kernel_rfl
noncomputable def S.RateBetween (c : Cf) (w r : Int) : Option (Bool) :=
  bif !S.q_rmay (Cf.mk (Cf.target c) (Cf.util c) (Cf.stable c) (Cf.panic c) (Cf.grain c) (Cf.threshold c) (Cf.up c) (Cf.down c) (Cf.min c) (Cf.max c) (Cf.initial c) (Cf.grace c) (Cf.delay c) (Cf.burst c) (Cf.limit c) (Cf.queue c) (Cf.timeout c) (Cf.ready c) (Cf.subset c) (Cf.sample c)) then
    some (true)
  else
    (optK (S.q_least (Cf.mk (Cf.target c) (Cf.util c) (Cf.stable c) (Cf.panic c) (Cf.grain c) (Cf.threshold c) (Cf.up c) (Cf.down c) (Cf.min c) (Cf.max c) (Cf.initial c) (Cf.grace c) (Cf.delay c) (Cf.burst c) (Cf.limit c) (Cf.queue c) (Cf.timeout c) (Cf.ready c) (Cf.subset c) (Cf.sample c)) (Go.IntKind.wrap .i64 (Int.tmod (Go.IntKind.wrap .u64 r) 10000))) fun o3 =>
      (optK (S.q_most (Cf.mk (Cf.target c) (Cf.util c) (Cf.stable c) (Cf.panic c) (Cf.grain c) (Cf.threshold c) (Cf.up c) (Cf.down c) (Cf.min c) (Cf.max c) (Cf.initial c) (Cf.grace c) (Cf.delay c) (Cf.burst c) (Cf.limit c) (Cf.queue c) (Cf.timeout c) (Cf.ready c) (Cf.subset c) (Cf.sample c)) (Go.IntKind.wrap .i64 (Int.tmod (Go.IntKind.wrap .u64 r) 10000))) fun o4 =>
        (optK (S.q_limit (Cf.mk (Cf.target c) (Cf.util c) (Cf.stable c) (Cf.panic c) (Cf.grain c) (Cf.threshold c) (Cf.up c) (Cf.down c) (Cf.min c) (Cf.max c) (Cf.initial c) (Cf.grace c) (Cf.delay c) (Cf.burst c) (Cf.limit c) (Cf.queue c) (Cf.timeout c) (Cf.ready c) (Cf.subset c) (Cf.sample c)) (Go.IntKind.wrap .i64 (Int.tmod (Go.IntKind.wrap .u64 w) 10000)) (Go.IntKind.wrap .i64 (Int.tmod (Go.IntKind.wrap .u64 r) 10000))) fun o5 =>
          bif decide (o3 ≤ Go.IntKind.wrap .i64 (Int.tmod (Go.IntKind.wrap .u64 r) 10000)) then
            bif decide (Go.IntKind.wrap .i64 (Int.tmod (Go.IntKind.wrap .u64 r) 10000) < o4) then
              bif decide (Go.IntKind.wrap .i64 (Int.tmod (Go.IntKind.wrap .u64 r) 10000) = 0) then
                bif decide (o3 ≤ o5) then
                  bif decide (o5 ≤ o4) then
                    bif decide (Go.IntKind.wrap .i64 (Int.tmod (Go.IntKind.wrap .u64 w) 10000) < o3) then
                      some (true)
                    else
                      bif decide (o4 < Go.IntKind.wrap .i64 (Int.tmod (Go.IntKind.wrap .u64 w) 10000)) then
                        some (true)
                      else
                        some (decide (o5 = Go.IntKind.wrap .i64 (Int.tmod (Go.IntKind.wrap .u64 w) 10000)))
                  else
                    some (false)
                else
                  some (false)
              else
                bif decide (o3 < Go.IntKind.wrap .i64 (Int.tmod (Go.IntKind.wrap .u64 r) 10000)) then
                  bif decide (o3 ≤ o5) then
                    bif decide (o5 ≤ o4) then
                      bif decide (Go.IntKind.wrap .i64 (Int.tmod (Go.IntKind.wrap .u64 w) 10000) < o3) then
                        some (true)
                      else
                        bif decide (o4 < Go.IntKind.wrap .i64 (Int.tmod (Go.IntKind.wrap .u64 w) 10000)) then
                          some (true)
                        else
                          some (decide (o5 = Go.IntKind.wrap .i64 (Int.tmod (Go.IntKind.wrap .u64 w) 10000)))
                    else
                      some (false)
                  else
                    some (false)
                else
                  some (false)
            else
              some (false)
          else
            some (false))))
theorem S.RateBetween_v {R : Type} (c : Cf) (w r : Int) (k : AVal → List Blk → Option R) : fnEval tis F12 0 G35s Try.f12 [.agg (cfA c), .int .i64 w, .int .i64 r] [] k = oK (fun v : Bool => k (.bool v) []) (S.RateBetween c w r) :=
  (S.RateBetween_k c w r k).trans (bif_lift (f := (oK (fun v : Bool => k (.bool v) []))) rfl (opt_lift fun o3 => (opt_lift fun o4 => (opt_lift fun o5 => (bif_lift (f := (oK (fun v : Bool => k (.bool v) []))) (bif_lift (f := (oK (fun v : Bool => k (.bool v) []))) (bif_lift (f := (oK (fun v : Bool => k (.bool v) []))) (bif_lift (f := (oK (fun v : Bool => k (.bool v) []))) (bif_lift (f := (oK (fun v : Bool => k (.bool v) []))) (bif_lift (f := (oK (fun v : Bool => k (.bool v) []))) rfl (bif_lift (f := (oK (fun v : Bool => k (.bool v) []))) rfl rfl)) rfl) rfl) (bif_lift (f := (oK (fun v : Bool => k (.bool v) []))) (bif_lift (f := (oK (fun v : Bool => k (.bool v) []))) (bif_lift (f := (oK (fun v : Bool => k (.bool v) []))) (bif_lift (f := (oK (fun v : Bool => k (.bool v) []))) rfl (bif_lift (f := (oK (fun v : Bool => k (.bool v) []))) rfl rfl)) rfl) rfl) rfl)) rfl) rfl)))))
noncomputable def H12 : Hnd := fun R args σ k => match args, σ with
  | [.agg [.int .i64 target_, .int .i64 util_, .int .i64 stable_, .int .i64 panic_, .int .i64 grain_, .int .i64 threshold_, .int .i64 up_, .int .i64 down_, .int .i64 min_, .int .i64 max_, .int .i64 initial_, .int .i64 grace_, .int .i64 delay_, .int .i64 burst_, .int .i64 limit_, .int .i64 queue_, .int .i64 timeout_, .int .i64 ready_, .int .i64 subset_, .int .i64 sample_], .int .i64 w, .int .i64 r], [] => oK (fun v : Bool => k (.bool v) []) (S.RateBetween ⟨target_, util_, stable_, panic_, grain_, threshold_, up_, down_, min_, max_, initial_, grace_, delay_, burst_, limit_, queue_, timeout_, ready_, subset_, sample_⟩ w r)
  | _, _ => none
theorem H12_ok : HndOk Try.prog 12 H12 := hnd_ok tis tisOk mixOk G35s_ok F12 Try.func12 rfl (by
  intro R args σ k r h
  unfold H12 at h
  split at h
  · rename_i target_ util_ stable_ panic_ grain_ threshold_ up_ down_ min_ max_ initial_ grace_ delay_ burst_ limit_ queue_ timeout_ ready_ subset_ sample_ w r; exact ⟨0, (S.RateBetween_v ⟨target_, util_, stable_, panic_, grain_, threshold_, up_, down_, min_, max_, initial_, grace_, delay_, burst_, limit_, queue_, timeout_, ready_, subset_, sample_⟩ w r _).trans h⟩
  · cases h)
noncomputable def G12 : Env := Env.add 12 H12 G35s
theorem G12_ok : EnvOk Try.prog G12 := envAdd_ok H12_ok G35s_ok
end Go.Proofs.Ytdcfjndlmmldpaa.AB
