/- RateMore, as a plain function. -/
import Derived.Test.YtdcfjndlmmldpaaSratez
namespace Go.Proofs.Ytdcfjndlmmldpaa.AB
set_option linter.unusedVariables false

/-! spinnakerlaw13.RateMore -/
def F10 : FCfg := ⟨keepAt [(0, [1, 2, 3, 4, 5]), (1, [1, 2, 3, 4, 5, 17]), (2, [10]), (3, [5, 11, 12, 13, 14]), (4, [5, 11, 12, 13, 14, 37]), (5, [5, 11, 12, 13, 14]), (6, [5, 11, 12, 13, 14, 42]), (7, [5, 11, 12, 13, 14]), (8, [10])], loopAt [], []⟩
theorem S.RateMore_k {R : Type} (c : Cf) (a b w v : Int) (k : AVal → List Blk → Option R) : fnEval tis F10 0 G35s Try.f10 [.agg (cfA c), .int .i64 a, .int .i64 b, .int .i64 w, .int .i64 v] [] k =
  (bif !S.q_rmay (Cf.mk (Cf.target c) (Cf.util c) (Cf.stable c) (Cf.panic c) (Cf.grain c) (Cf.threshold c) (Cf.up c) (Cf.down c) (Cf.min c) (Cf.max c) (Cf.initial c) (Cf.grace c) (Cf.delay c) (Cf.burst c) (Cf.limit c) (Cf.queue c) (Cf.timeout c) (Cf.ready c) (Cf.subset c) (Cf.sample c)) then
    k (.bool true) ([])
  else
    bif decide (Go.IntKind.wrap .i64 (Int.tmod (Go.IntKind.wrap .u64 b) 10000) < Go.IntKind.wrap .i64 (Int.tmod (Go.IntKind.wrap .u64 a) 10000)) then
      bif decide (Go.IntKind.wrap .i64 (Int.tmod (Go.IntKind.wrap .u64 v) 10000) < Go.IntKind.wrap .i64 (Int.tmod (Go.IntKind.wrap .u64 w) 10000)) then
        (optK (S.q_least (Cf.mk (Cf.target c) (Cf.util c) (Cf.stable c) (Cf.panic c) (Cf.grain c) (Cf.threshold c) (Cf.up c) (Cf.down c) (Cf.min c) (Cf.max c) (Cf.initial c) (Cf.grace c) (Cf.delay c) (Cf.burst c) (Cf.limit c) (Cf.queue c) (Cf.timeout c) (Cf.ready c) (Cf.subset c) (Cf.sample c)) (Go.IntKind.wrap .i64 (Int.tmod (Go.IntKind.wrap .u64 b) 10000))) fun o5 =>
          (optK (S.q_least (Cf.mk (Cf.target c) (Cf.util c) (Cf.stable c) (Cf.panic c) (Cf.grain c) (Cf.threshold c) (Cf.up c) (Cf.down c) (Cf.min c) (Cf.max c) (Cf.initial c) (Cf.grace c) (Cf.delay c) (Cf.burst c) (Cf.limit c) (Cf.queue c) (Cf.timeout c) (Cf.ready c) (Cf.subset c) (Cf.sample c)) (Go.IntKind.wrap .i64 (Int.tmod (Go.IntKind.wrap .u64 a) 10000))) fun o6 =>
            bif decide (o5 ≤ o6) then
              (optK (S.q_most (Cf.mk (Cf.target c) (Cf.util c) (Cf.stable c) (Cf.panic c) (Cf.grain c) (Cf.threshold c) (Cf.up c) (Cf.down c) (Cf.min c) (Cf.max c) (Cf.initial c) (Cf.grace c) (Cf.delay c) (Cf.burst c) (Cf.limit c) (Cf.queue c) (Cf.timeout c) (Cf.ready c) (Cf.subset c) (Cf.sample c)) (Go.IntKind.wrap .i64 (Int.tmod (Go.IntKind.wrap .u64 b) 10000))) fun o8 =>
                (optK (S.q_most (Cf.mk (Cf.target c) (Cf.util c) (Cf.stable c) (Cf.panic c) (Cf.grain c) (Cf.threshold c) (Cf.up c) (Cf.down c) (Cf.min c) (Cf.max c) (Cf.initial c) (Cf.grace c) (Cf.delay c) (Cf.burst c) (Cf.limit c) (Cf.queue c) (Cf.timeout c) (Cf.ready c) (Cf.subset c) (Cf.sample c)) (Go.IntKind.wrap .i64 (Int.tmod (Go.IntKind.wrap .u64 a) 10000))) fun o9 =>
                  bif decide (o8 ≤ o9) then
                    (optK (S.q_limit (Cf.mk (Cf.target c) (Cf.util c) (Cf.stable c) (Cf.panic c) (Cf.grain c) (Cf.threshold c) (Cf.up c) (Cf.down c) (Cf.min c) (Cf.max c) (Cf.initial c) (Cf.grace c) (Cf.delay c) (Cf.burst c) (Cf.limit c) (Cf.queue c) (Cf.timeout c) (Cf.ready c) (Cf.subset c) (Cf.sample c)) (Go.IntKind.wrap .i64 (Int.tmod (Go.IntKind.wrap .u64 v) 10000)) (Go.IntKind.wrap .i64 (Int.tmod (Go.IntKind.wrap .u64 b) 10000))) fun o11 =>
                      (optK (S.q_limit (Cf.mk (Cf.target c) (Cf.util c) (Cf.stable c) (Cf.panic c) (Cf.grain c) (Cf.threshold c) (Cf.up c) (Cf.down c) (Cf.min c) (Cf.max c) (Cf.initial c) (Cf.grace c) (Cf.delay c) (Cf.burst c) (Cf.limit c) (Cf.queue c) (Cf.timeout c) (Cf.ready c) (Cf.subset c) (Cf.sample c)) (Go.IntKind.wrap .i64 (Int.tmod (Go.IntKind.wrap .u64 w) 10000)) (Go.IntKind.wrap .i64 (Int.tmod (Go.IntKind.wrap .u64 b) 10000))) fun o12 =>
                        bif decide (o11 ≤ o12) then
                          (optK (S.q_limit (Cf.mk (Cf.target c) (Cf.util c) (Cf.stable c) (Cf.panic c) (Cf.grain c) (Cf.threshold c) (Cf.up c) (Cf.down c) (Cf.min c) (Cf.max c) (Cf.initial c) (Cf.grace c) (Cf.delay c) (Cf.burst c) (Cf.limit c) (Cf.queue c) (Cf.timeout c) (Cf.ready c) (Cf.subset c) (Cf.sample c)) (Go.IntKind.wrap .i64 (Int.tmod (Go.IntKind.wrap .u64 v) 10000)) (Go.IntKind.wrap .i64 (Int.tmod (Go.IntKind.wrap .u64 b) 10000))) fun o14 =>
                            (optK (S.q_limit (Cf.mk (Cf.target c) (Cf.util c) (Cf.stable c) (Cf.panic c) (Cf.grain c) (Cf.threshold c) (Cf.up c) (Cf.down c) (Cf.min c) (Cf.max c) (Cf.initial c) (Cf.grace c) (Cf.delay c) (Cf.burst c) (Cf.limit c) (Cf.queue c) (Cf.timeout c) (Cf.ready c) (Cf.subset c) (Cf.sample c)) (Go.IntKind.wrap .i64 (Int.tmod (Go.IntKind.wrap .u64 v) 10000)) (Go.IntKind.wrap .i64 (Int.tmod (Go.IntKind.wrap .u64 a) 10000))) fun o15 =>
                              k (.bool (decide (o14 ≤ o15))) ([])))
                        else
                          k (.bool false) ([])))
                  else
                    k (.bool false) ([])))
            else
              k (.bool false) ([])))
      else
        (optK (S.q_least (Cf.mk (Cf.target c) (Cf.util c) (Cf.stable c) (Cf.panic c) (Cf.grain c) (Cf.threshold c) (Cf.up c) (Cf.down c) (Cf.min c) (Cf.max c) (Cf.initial c) (Cf.grace c) (Cf.delay c) (Cf.burst c) (Cf.limit c) (Cf.queue c) (Cf.timeout c) (Cf.ready c) (Cf.subset c) (Cf.sample c)) (Go.IntKind.wrap .i64 (Int.tmod (Go.IntKind.wrap .u64 b) 10000))) fun o5 =>
          (optK (S.q_least (Cf.mk (Cf.target c) (Cf.util c) (Cf.stable c) (Cf.panic c) (Cf.grain c) (Cf.threshold c) (Cf.up c) (Cf.down c) (Cf.min c) (Cf.max c) (Cf.initial c) (Cf.grace c) (Cf.delay c) (Cf.burst c) (Cf.limit c) (Cf.queue c) (Cf.timeout c) (Cf.ready c) (Cf.subset c) (Cf.sample c)) (Go.IntKind.wrap .i64 (Int.tmod (Go.IntKind.wrap .u64 a) 10000))) fun o6 =>
            bif decide (o5 ≤ o6) then
              (optK (S.q_most (Cf.mk (Cf.target c) (Cf.util c) (Cf.stable c) (Cf.panic c) (Cf.grain c) (Cf.threshold c) (Cf.up c) (Cf.down c) (Cf.min c) (Cf.max c) (Cf.initial c) (Cf.grace c) (Cf.delay c) (Cf.burst c) (Cf.limit c) (Cf.queue c) (Cf.timeout c) (Cf.ready c) (Cf.subset c) (Cf.sample c)) (Go.IntKind.wrap .i64 (Int.tmod (Go.IntKind.wrap .u64 b) 10000))) fun o8 =>
                (optK (S.q_most (Cf.mk (Cf.target c) (Cf.util c) (Cf.stable c) (Cf.panic c) (Cf.grain c) (Cf.threshold c) (Cf.up c) (Cf.down c) (Cf.min c) (Cf.max c) (Cf.initial c) (Cf.grace c) (Cf.delay c) (Cf.burst c) (Cf.limit c) (Cf.queue c) (Cf.timeout c) (Cf.ready c) (Cf.subset c) (Cf.sample c)) (Go.IntKind.wrap .i64 (Int.tmod (Go.IntKind.wrap .u64 a) 10000))) fun o9 =>
                  bif decide (o8 ≤ o9) then
                    (optK (S.q_limit (Cf.mk (Cf.target c) (Cf.util c) (Cf.stable c) (Cf.panic c) (Cf.grain c) (Cf.threshold c) (Cf.up c) (Cf.down c) (Cf.min c) (Cf.max c) (Cf.initial c) (Cf.grace c) (Cf.delay c) (Cf.burst c) (Cf.limit c) (Cf.queue c) (Cf.timeout c) (Cf.ready c) (Cf.subset c) (Cf.sample c)) (Go.IntKind.wrap .i64 (Int.tmod (Go.IntKind.wrap .u64 w) 10000)) (Go.IntKind.wrap .i64 (Int.tmod (Go.IntKind.wrap .u64 b) 10000))) fun o11 =>
                      (optK (S.q_limit (Cf.mk (Cf.target c) (Cf.util c) (Cf.stable c) (Cf.panic c) (Cf.grain c) (Cf.threshold c) (Cf.up c) (Cf.down c) (Cf.min c) (Cf.max c) (Cf.initial c) (Cf.grace c) (Cf.delay c) (Cf.burst c) (Cf.limit c) (Cf.queue c) (Cf.timeout c) (Cf.ready c) (Cf.subset c) (Cf.sample c)) (Go.IntKind.wrap .i64 (Int.tmod (Go.IntKind.wrap .u64 v) 10000)) (Go.IntKind.wrap .i64 (Int.tmod (Go.IntKind.wrap .u64 b) 10000))) fun o12 =>
                        bif decide (o11 ≤ o12) then
                          (optK (S.q_limit (Cf.mk (Cf.target c) (Cf.util c) (Cf.stable c) (Cf.panic c) (Cf.grain c) (Cf.threshold c) (Cf.up c) (Cf.down c) (Cf.min c) (Cf.max c) (Cf.initial c) (Cf.grace c) (Cf.delay c) (Cf.burst c) (Cf.limit c) (Cf.queue c) (Cf.timeout c) (Cf.ready c) (Cf.subset c) (Cf.sample c)) (Go.IntKind.wrap .i64 (Int.tmod (Go.IntKind.wrap .u64 w) 10000)) (Go.IntKind.wrap .i64 (Int.tmod (Go.IntKind.wrap .u64 b) 10000))) fun o14 =>
                            (optK (S.q_limit (Cf.mk (Cf.target c) (Cf.util c) (Cf.stable c) (Cf.panic c) (Cf.grain c) (Cf.threshold c) (Cf.up c) (Cf.down c) (Cf.min c) (Cf.max c) (Cf.initial c) (Cf.grace c) (Cf.delay c) (Cf.burst c) (Cf.limit c) (Cf.queue c) (Cf.timeout c) (Cf.ready c) (Cf.subset c) (Cf.sample c)) (Go.IntKind.wrap .i64 (Int.tmod (Go.IntKind.wrap .u64 w) 10000)) (Go.IntKind.wrap .i64 (Int.tmod (Go.IntKind.wrap .u64 a) 10000))) fun o15 =>
                              k (.bool (decide (o14 ≤ o15))) ([])))
                        else
                          k (.bool false) ([])))
                  else
                    k (.bool false) ([])))
            else
              k (.bool false) ([])))
    else
      bif decide (Go.IntKind.wrap .i64 (Int.tmod (Go.IntKind.wrap .u64 v) 10000) < Go.IntKind.wrap .i64 (Int.tmod (Go.IntKind.wrap .u64 w) 10000)) then
        (optK (S.q_least (Cf.mk (Cf.target c) (Cf.util c) (Cf.stable c) (Cf.panic c) (Cf.grain c) (Cf.threshold c) (Cf.up c) (Cf.down c) (Cf.min c) (Cf.max c) (Cf.initial c) (Cf.grace c) (Cf.delay c) (Cf.burst c) (Cf.limit c) (Cf.queue c) (Cf.timeout c) (Cf.ready c) (Cf.subset c) (Cf.sample c)) (Go.IntKind.wrap .i64 (Int.tmod (Go.IntKind.wrap .u64 a) 10000))) fun o5 =>
          (optK (S.q_least (Cf.mk (Cf.target c) (Cf.util c) (Cf.stable c) (Cf.panic c) (Cf.grain c) (Cf.threshold c) (Cf.up c) (Cf.down c) (Cf.min c) (Cf.max c) (Cf.initial c) (Cf.grace c) (Cf.delay c) (Cf.burst c) (Cf.limit c) (Cf.queue c) (Cf.timeout c) (Cf.ready c) (Cf.subset c) (Cf.sample c)) (Go.IntKind.wrap .i64 (Int.tmod (Go.IntKind.wrap .u64 b) 10000))) fun o6 =>
            bif decide (o5 ≤ o6) then
              (optK (S.q_most (Cf.mk (Cf.target c) (Cf.util c) (Cf.stable c) (Cf.panic c) (Cf.grain c) (Cf.threshold c) (Cf.up c) (Cf.down c) (Cf.min c) (Cf.max c) (Cf.initial c) (Cf.grace c) (Cf.delay c) (Cf.burst c) (Cf.limit c) (Cf.queue c) (Cf.timeout c) (Cf.ready c) (Cf.subset c) (Cf.sample c)) (Go.IntKind.wrap .i64 (Int.tmod (Go.IntKind.wrap .u64 a) 10000))) fun o8 =>
                (optK (S.q_most (Cf.mk (Cf.target c) (Cf.util c) (Cf.stable c) (Cf.panic c) (Cf.grain c) (Cf.threshold c) (Cf.up c) (Cf.down c) (Cf.min c) (Cf.max c) (Cf.initial c) (Cf.grace c) (Cf.delay c) (Cf.burst c) (Cf.limit c) (Cf.queue c) (Cf.timeout c) (Cf.ready c) (Cf.subset c) (Cf.sample c)) (Go.IntKind.wrap .i64 (Int.tmod (Go.IntKind.wrap .u64 b) 10000))) fun o9 =>
                  bif decide (o8 ≤ o9) then
                    (optK (S.q_limit (Cf.mk (Cf.target c) (Cf.util c) (Cf.stable c) (Cf.panic c) (Cf.grain c) (Cf.threshold c) (Cf.up c) (Cf.down c) (Cf.min c) (Cf.max c) (Cf.initial c) (Cf.grace c) (Cf.delay c) (Cf.burst c) (Cf.limit c) (Cf.queue c) (Cf.timeout c) (Cf.ready c) (Cf.subset c) (Cf.sample c)) (Go.IntKind.wrap .i64 (Int.tmod (Go.IntKind.wrap .u64 v) 10000)) (Go.IntKind.wrap .i64 (Int.tmod (Go.IntKind.wrap .u64 a) 10000))) fun o11 =>
                      (optK (S.q_limit (Cf.mk (Cf.target c) (Cf.util c) (Cf.stable c) (Cf.panic c) (Cf.grain c) (Cf.threshold c) (Cf.up c) (Cf.down c) (Cf.min c) (Cf.max c) (Cf.initial c) (Cf.grace c) (Cf.delay c) (Cf.burst c) (Cf.limit c) (Cf.queue c) (Cf.timeout c) (Cf.ready c) (Cf.subset c) (Cf.sample c)) (Go.IntKind.wrap .i64 (Int.tmod (Go.IntKind.wrap .u64 w) 10000)) (Go.IntKind.wrap .i64 (Int.tmod (Go.IntKind.wrap .u64 a) 10000))) fun o12 =>
                        bif decide (o11 ≤ o12) then
                          (optK (S.q_limit (Cf.mk (Cf.target c) (Cf.util c) (Cf.stable c) (Cf.panic c) (Cf.grain c) (Cf.threshold c) (Cf.up c) (Cf.down c) (Cf.min c) (Cf.max c) (Cf.initial c) (Cf.grace c) (Cf.delay c) (Cf.burst c) (Cf.limit c) (Cf.queue c) (Cf.timeout c) (Cf.ready c) (Cf.subset c) (Cf.sample c)) (Go.IntKind.wrap .i64 (Int.tmod (Go.IntKind.wrap .u64 v) 10000)) (Go.IntKind.wrap .i64 (Int.tmod (Go.IntKind.wrap .u64 a) 10000))) fun o14 =>
                            (optK (S.q_limit (Cf.mk (Cf.target c) (Cf.util c) (Cf.stable c) (Cf.panic c) (Cf.grain c) (Cf.threshold c) (Cf.up c) (Cf.down c) (Cf.min c) (Cf.max c) (Cf.initial c) (Cf.grace c) (Cf.delay c) (Cf.burst c) (Cf.limit c) (Cf.queue c) (Cf.timeout c) (Cf.ready c) (Cf.subset c) (Cf.sample c)) (Go.IntKind.wrap .i64 (Int.tmod (Go.IntKind.wrap .u64 v) 10000)) (Go.IntKind.wrap .i64 (Int.tmod (Go.IntKind.wrap .u64 b) 10000))) fun o15 =>
                              k (.bool (decide (o14 ≤ o15))) ([])))
                        else
                          k (.bool false) ([])))
                  else
                    k (.bool false) ([])))
            else
              k (.bool false) ([])))
      else
        (optK (S.q_least (Cf.mk (Cf.target c) (Cf.util c) (Cf.stable c) (Cf.panic c) (Cf.grain c) (Cf.threshold c) (Cf.up c) (Cf.down c) (Cf.min c) (Cf.max c) (Cf.initial c) (Cf.grace c) (Cf.delay c) (Cf.burst c) (Cf.limit c) (Cf.queue c) (Cf.timeout c) (Cf.ready c) (Cf.subset c) (Cf.sample c)) (Go.IntKind.wrap .i64 (Int.tmod (Go.IntKind.wrap .u64 a) 10000))) fun o5 =>
          (optK (S.q_least (Cf.mk (Cf.target c) (Cf.util c) (Cf.stable c) (Cf.panic c) (Cf.grain c) (Cf.threshold c) (Cf.up c) (Cf.down c) (Cf.min c) (Cf.max c) (Cf.initial c) (Cf.grace c) (Cf.delay c) (Cf.burst c) (Cf.limit c) (Cf.queue c) (Cf.timeout c) (Cf.ready c) (Cf.subset c) (Cf.sample c)) (Go.IntKind.wrap .i64 (Int.tmod (Go.IntKind.wrap .u64 b) 10000))) fun o6 =>
            bif decide (o5 ≤ o6) then
              (optK (S.q_most (Cf.mk (Cf.target c) (Cf.util c) (Cf.stable c) (Cf.panic c) (Cf.grain c) (Cf.threshold c) (Cf.up c) (Cf.down c) (Cf.min c) (Cf.max c) (Cf.initial c) (Cf.grace c) (Cf.delay c) (Cf.burst c) (Cf.limit c) (Cf.queue c) (Cf.timeout c) (Cf.ready c) (Cf.subset c) (Cf.sample c)) (Go.IntKind.wrap .i64 (Int.tmod (Go.IntKind.wrap .u64 a) 10000))) fun o8 =>
                (optK (S.q_most (Cf.mk (Cf.target c) (Cf.util c) (Cf.stable c) (Cf.panic c) (Cf.grain c) (Cf.threshold c) (Cf.up c) (Cf.down c) (Cf.min c) (Cf.max c) (Cf.initial c) (Cf.grace c) (Cf.delay c) (Cf.burst c) (Cf.limit c) (Cf.queue c) (Cf.timeout c) (Cf.ready c) (Cf.subset c) (Cf.sample c)) (Go.IntKind.wrap .i64 (Int.tmod (Go.IntKind.wrap .u64 b) 10000))) fun o9 =>
                  bif decide (o8 ≤ o9) then
                    (optK (S.q_limit (Cf.mk (Cf.target c) (Cf.util c) (Cf.stable c) (Cf.panic c) (Cf.grain c) (Cf.threshold c) (Cf.up c) (Cf.down c) (Cf.min c) (Cf.max c) (Cf.initial c) (Cf.grace c) (Cf.delay c) (Cf.burst c) (Cf.limit c) (Cf.queue c) (Cf.timeout c) (Cf.ready c) (Cf.subset c) (Cf.sample c)) (Go.IntKind.wrap .i64 (Int.tmod (Go.IntKind.wrap .u64 w) 10000)) (Go.IntKind.wrap .i64 (Int.tmod (Go.IntKind.wrap .u64 a) 10000))) fun o11 =>
                      (optK (S.q_limit (Cf.mk (Cf.target c) (Cf.util c) (Cf.stable c) (Cf.panic c) (Cf.grain c) (Cf.threshold c) (Cf.up c) (Cf.down c) (Cf.min c) (Cf.max c) (Cf.initial c) (Cf.grace c) (Cf.delay c) (Cf.burst c) (Cf.limit c) (Cf.queue c) (Cf.timeout c) (Cf.ready c) (Cf.subset c) (Cf.sample c)) (Go.IntKind.wrap .i64 (Int.tmod (Go.IntKind.wrap .u64 v) 10000)) (Go.IntKind.wrap .i64 (Int.tmod (Go.IntKind.wrap .u64 a) 10000))) fun o12 =>
                        bif decide (o11 ≤ o12) then
                          (optK (S.q_limit (Cf.mk (Cf.target c) (Cf.util c) (Cf.stable c) (Cf.panic c) (Cf.grain c) (Cf.threshold c) (Cf.up c) (Cf.down c) (Cf.min c) (Cf.max c) (Cf.initial c) (Cf.grace c) (Cf.delay c) (Cf.burst c) (Cf.limit c) (Cf.queue c) (Cf.timeout c) (Cf.ready c) (Cf.subset c) (Cf.sample c)) (Go.IntKind.wrap .i64 (Int.tmod (Go.IntKind.wrap .u64 w) 10000)) (Go.IntKind.wrap .i64 (Int.tmod (Go.IntKind.wrap .u64 a) 10000))) fun o14 =>
                            (optK (S.q_limit (Cf.mk (Cf.target c) (Cf.util c) (Cf.stable c) (Cf.panic c) (Cf.grain c) (Cf.threshold c) (Cf.up c) (Cf.down c) (Cf.min c) (Cf.max c) (Cf.initial c) (Cf.grace c) (Cf.delay c) (Cf.burst c) (Cf.limit c) (Cf.queue c) (Cf.timeout c) (Cf.ready c) (Cf.subset c) (Cf.sample c)) (Go.IntKind.wrap .i64 (Int.tmod (Go.IntKind.wrap .u64 w) 10000)) (Go.IntKind.wrap .i64 (Int.tmod (Go.IntKind.wrap .u64 b) 10000))) fun o15 =>
                              k (.bool (decide (o14 ≤ o15))) ([])))
                        else
                          k (.bool false) ([])))
                  else
                    k (.bool false) ([])))
            else
              k (.bool false) ([])))) := by kernel_rfl
noncomputable def S.RateMore (c : Cf) (a b w v : Int) : Option (Bool) :=
  bif !S.q_rmay (Cf.mk (Cf.target c) (Cf.util c) (Cf.stable c) (Cf.panic c) (Cf.grain c) (Cf.threshold c) (Cf.up c) (Cf.down c) (Cf.min c) (Cf.max c) (Cf.initial c) (Cf.grace c) (Cf.delay c) (Cf.burst c) (Cf.limit c) (Cf.queue c) (Cf.timeout c) (Cf.ready c) (Cf.subset c) (Cf.sample c)) then
    some (true)
  else
    bif decide (Go.IntKind.wrap .i64 (Int.tmod (Go.IntKind.wrap .u64 b) 10000) < Go.IntKind.wrap .i64 (Int.tmod (Go.IntKind.wrap .u64 a) 10000)) then
      bif decide (Go.IntKind.wrap .i64 (Int.tmod (Go.IntKind.wrap .u64 v) 10000) < Go.IntKind.wrap .i64 (Int.tmod (Go.IntKind.wrap .u64 w) 10000)) then
        (optK (S.q_least (Cf.mk (Cf.target c) (Cf.util c) (Cf.stable c) (Cf.panic c) (Cf.grain c) (Cf.threshold c) (Cf.up c) (Cf.down c) (Cf.min c) (Cf.max c) (Cf.initial c) (Cf.grace c) (Cf.delay c) (Cf.burst c) (Cf.limit c) (Cf.queue c) (Cf.timeout c) (Cf.ready c) (Cf.subset c) (Cf.sample c)) (Go.IntKind.wrap .i64 (Int.tmod (Go.IntKind.wrap .u64 b) 10000))) fun o5 =>
          (optK (S.q_least (Cf.mk (Cf.target c) (Cf.util c) (Cf.stable c) (Cf.panic c) (Cf.grain c) (Cf.threshold c) (Cf.up c) (Cf.down c) (Cf.min c) (Cf.max c) (Cf.initial c) (Cf.grace c) (Cf.delay c) (Cf.burst c) (Cf.limit c) (Cf.queue c) (Cf.timeout c) (Cf.ready c) (Cf.subset c) (Cf.sample c)) (Go.IntKind.wrap .i64 (Int.tmod (Go.IntKind.wrap .u64 a) 10000))) fun o6 =>
            bif decide (o5 ≤ o6) then
              (optK (S.q_most (Cf.mk (Cf.target c) (Cf.util c) (Cf.stable c) (Cf.panic c) (Cf.grain c) (Cf.threshold c) (Cf.up c) (Cf.down c) (Cf.min c) (Cf.max c) (Cf.initial c) (Cf.grace c) (Cf.delay c) (Cf.burst c) (Cf.limit c) (Cf.queue c) (Cf.timeout c) (Cf.ready c) (Cf.subset c) (Cf.sample c)) (Go.IntKind.wrap .i64 (Int.tmod (Go.IntKind.wrap .u64 b) 10000))) fun o8 =>
                (optK (S.q_most (Cf.mk (Cf.target c) (Cf.util c) (Cf.stable c) (Cf.panic c) (Cf.grain c) (Cf.threshold c) (Cf.up c) (Cf.down c) (Cf.min c) (Cf.max c) (Cf.initial c) (Cf.grace c) (Cf.delay c) (Cf.burst c) (Cf.limit c) (Cf.queue c) (Cf.timeout c) (Cf.ready c) (Cf.subset c) (Cf.sample c)) (Go.IntKind.wrap .i64 (Int.tmod (Go.IntKind.wrap .u64 a) 10000))) fun o9 =>
                  bif decide (o8 ≤ o9) then
                    (optK (S.q_limit (Cf.mk (Cf.target c) (Cf.util c) (Cf.stable c) (Cf.panic c) (Cf.grain c) (Cf.threshold c) (Cf.up c) (Cf.down c) (Cf.min c) (Cf.max c) (Cf.initial c) (Cf.grace c) (Cf.delay c) (Cf.burst c) (Cf.limit c) (Cf.queue c) (Cf.timeout c) (Cf.ready c) (Cf.subset c) (Cf.sample c)) (Go.IntKind.wrap .i64 (Int.tmod (Go.IntKind.wrap .u64 v) 10000)) (Go.IntKind.wrap .i64 (Int.tmod (Go.IntKind.wrap .u64 b) 10000))) fun o11 =>
                      (optK (S.q_limit (Cf.mk (Cf.target c) (Cf.util c) (Cf.stable c) (Cf.panic c) (Cf.grain c) (Cf.threshold c) (Cf.up c) (Cf.down c) (Cf.min c) (Cf.max c) (Cf.initial c) (Cf.grace c) (Cf.delay c) (Cf.burst c) (Cf.limit c) (Cf.queue c) (Cf.timeout c) (Cf.ready c) (Cf.subset c) (Cf.sample c)) (Go.IntKind.wrap .i64 (Int.tmod (Go.IntKind.wrap .u64 w) 10000)) (Go.IntKind.wrap .i64 (Int.tmod (Go.IntKind.wrap .u64 b) 10000))) fun o12 =>
                        bif decide (o11 ≤ o12) then
                          (optK (S.q_limit (Cf.mk (Cf.target c) (Cf.util c) (Cf.stable c) (Cf.panic c) (Cf.grain c) (Cf.threshold c) (Cf.up c) (Cf.down c) (Cf.min c) (Cf.max c) (Cf.initial c) (Cf.grace c) (Cf.delay c) (Cf.burst c) (Cf.limit c) (Cf.queue c) (Cf.timeout c) (Cf.ready c) (Cf.subset c) (Cf.sample c)) (Go.IntKind.wrap .i64 (Int.tmod (Go.IntKind.wrap .u64 v) 10000)) (Go.IntKind.wrap .i64 (Int.tmod (Go.IntKind.wrap .u64 b) 10000))) fun o14 =>
                            (optK (S.q_limit (Cf.mk (Cf.target c) (Cf.util c) (Cf.stable c) (Cf.panic c) (Cf.grain c) (Cf.threshold c) (Cf.up c) (Cf.down c) (Cf.min c) (Cf.max c) (Cf.initial c) (Cf.grace c) (Cf.delay c) (Cf.burst c) (Cf.limit c) (Cf.queue c) (Cf.timeout c) (Cf.ready c) (Cf.subset c) (Cf.sample c)) (Go.IntKind.wrap .i64 (Int.tmod (Go.IntKind.wrap .u64 v) 10000)) (Go.IntKind.wrap .i64 (Int.tmod (Go.IntKind.wrap .u64 a) 10000))) fun o15 =>
                              some (decide (o14 ≤ o15))))
                        else
                          some (false)))
                  else
                    some (false)))
            else
              some (false)))
      else
        (optK (S.q_least (Cf.mk (Cf.target c) (Cf.util c) (Cf.stable c) (Cf.panic c) (Cf.grain c) (Cf.threshold c) (Cf.up c) (Cf.down c) (Cf.min c) (Cf.max c) (Cf.initial c) (Cf.grace c) (Cf.delay c) (Cf.burst c) (Cf.limit c) (Cf.queue c) (Cf.timeout c) (Cf.ready c) (Cf.subset c) (Cf.sample c)) (Go.IntKind.wrap .i64 (Int.tmod (Go.IntKind.wrap .u64 b) 10000))) fun o5 =>
          (optK (S.q_least (Cf.mk (Cf.target c) (Cf.util c) (Cf.stable c) (Cf.panic c) (Cf.grain c) (Cf.threshold c) (Cf.up c) (Cf.down c) (Cf.min c) (Cf.max c) (Cf.initial c) (Cf.grace c) (Cf.delay c) (Cf.burst c) (Cf.limit c) (Cf.queue c) (Cf.timeout c) (Cf.ready c) (Cf.subset c) (Cf.sample c)) (Go.IntKind.wrap .i64 (Int.tmod (Go.IntKind.wrap .u64 a) 10000))) fun o6 =>
            bif decide (o5 ≤ o6) then
              (optK (S.q_most (Cf.mk (Cf.target c) (Cf.util c) (Cf.stable c) (Cf.panic c) (Cf.grain c) (Cf.threshold c) (Cf.up c) (Cf.down c) (Cf.min c) (Cf.max c) (Cf.initial c) (Cf.grace c) (Cf.delay c) (Cf.burst c) (Cf.limit c) (Cf.queue c) (Cf.timeout c) (Cf.ready c) (Cf.subset c) (Cf.sample c)) (Go.IntKind.wrap .i64 (Int.tmod (Go.IntKind.wrap .u64 b) 10000))) fun o8 =>
                (optK (S.q_most (Cf.mk (Cf.target c) (Cf.util c) (Cf.stable c) (Cf.panic c) (Cf.grain c) (Cf.threshold c) (Cf.up c) (Cf.down c) (Cf.min c) (Cf.max c) (Cf.initial c) (Cf.grace c) (Cf.delay c) (Cf.burst c) (Cf.limit c) (Cf.queue c) (Cf.timeout c) (Cf.ready c) (Cf.subset c) (Cf.sample c)) (Go.IntKind.wrap .i64 (Int.tmod (Go.IntKind.wrap .u64 a) 10000))) fun o9 =>
                  bif decide (o8 ≤ o9) then
                    (optK (S.q_limit (Cf.mk (Cf.target c) (Cf.util c) (Cf.stable c) (Cf.panic c) (Cf.grain c) (Cf.threshold c) (Cf.up c) (Cf.down c) (Cf.min c) (Cf.max c) (Cf.initial c) (Cf.grace c) (Cf.delay c) (Cf.burst c) (Cf.limit c) (Cf.queue c) (Cf.timeout c) (Cf.ready c) (Cf.subset c) (Cf.sample c)) (Go.IntKind.wrap .i64 (Int.tmod (Go.IntKind.wrap .u64 w) 10000)) (Go.IntKind.wrap .i64 (Int.tmod (Go.IntKind.wrap .u64 b) 10000))) fun o11 =>
                      (optK (S.q_limit (Cf.mk (Cf.target c) (Cf.util c) (Cf.stable c) (Cf.panic c) (Cf.grain c) (Cf.threshold c) (Cf.up c) (Cf.down c) (Cf.min c) (Cf.max c) (Cf.initial c) (Cf.grace c) (Cf.delay c) (Cf.burst c) (Cf.limit c) (Cf.queue c) (Cf.timeout c) (Cf.ready c) (Cf.subset c) (Cf.sample c)) (Go.IntKind.wrap .i64 (Int.tmod (Go.IntKind.wrap .u64 v) 10000)) (Go.IntKind.wrap .i64 (Int.tmod (Go.IntKind.wrap .u64 b) 10000))) fun o12 =>
                        bif decide (o11 ≤ o12) then
                          (optK (S.q_limit (Cf.mk (Cf.target c) (Cf.util c) (Cf.stable c) (Cf.panic c) (Cf.grain c) (Cf.threshold c) (Cf.up c) (Cf.down c) (Cf.min c) (Cf.max c) (Cf.initial c) (Cf.grace c) (Cf.delay c) (Cf.burst c) (Cf.limit c) (Cf.queue c) (Cf.timeout c) (Cf.ready c) (Cf.subset c) (Cf.sample c)) (Go.IntKind.wrap .i64 (Int.tmod (Go.IntKind.wrap .u64 w) 10000)) (Go.IntKind.wrap .i64 (Int.tmod (Go.IntKind.wrap .u64 b) 10000))) fun o14 =>
                            (optK (S.q_limit (Cf.mk (Cf.target c) (Cf.util c) (Cf.stable c) (Cf.panic c) (Cf.grain c) (Cf.threshold c) (Cf.up c) (Cf.down c) (Cf.min c) (Cf.max c) (Cf.initial c) (Cf.grace c) (Cf.delay c) (Cf.burst c) (Cf.limit c) (Cf.queue c) (Cf.timeout c) (Cf.ready c) (Cf.subset c) (Cf.sample c)) (Go.IntKind.wrap .i64 (Int.tmod (Go.IntKind.wrap .u64 w) 10000)) (Go.IntKind.wrap .i64 (Int.tmod (Go.IntKind.wrap .u64 a) 10000))) fun o15 =>
                              some (decide (o14 ≤ o15))))
                        else
                          some (false)))
                  else
                    some (false)))
            else
              some (false)))
    else
      bif decide (Go.IntKind.wrap .i64 (Int.tmod (Go.IntKind.wrap .u64 v) 10000) < Go.IntKind.wrap .i64 (Int.tmod (Go.IntKind.wrap .u64 w) 10000)) then
        (optK (S.q_least (Cf.mk (Cf.target c) (Cf.util c) (Cf.stable c) (Cf.panic c) (Cf.grain c) (Cf.threshold c) (Cf.up c) (Cf.down c) (Cf.min c) (Cf.max c) (Cf.initial c) (Cf.grace c) (Cf.delay c) (Cf.burst c) (Cf.limit c) (Cf.queue c) (Cf.timeout c) (Cf.ready c) (Cf.subset c) (Cf.sample c)) (Go.IntKind.wrap .i64 (Int.tmod (Go.IntKind.wrap .u64 a) 10000))) fun o5 =>
          (optK (S.q_least (Cf.mk (Cf.target c) (Cf.util c) (Cf.stable c) (Cf.panic c) (Cf.grain c) (Cf.threshold c) (Cf.up c) (Cf.down c) (Cf.min c) (Cf.max c) (Cf.initial c) (Cf.grace c) (Cf.delay c) (Cf.burst c) (Cf.limit c) (Cf.queue c) (Cf.timeout c) (Cf.ready c) (Cf.subset c) (Cf.sample c)) (Go.IntKind.wrap .i64 (Int.tmod (Go.IntKind.wrap .u64 b) 10000))) fun o6 =>
            bif decide (o5 ≤ o6) then
              (optK (S.q_most (Cf.mk (Cf.target c) (Cf.util c) (Cf.stable c) (Cf.panic c) (Cf.grain c) (Cf.threshold c) (Cf.up c) (Cf.down c) (Cf.min c) (Cf.max c) (Cf.initial c) (Cf.grace c) (Cf.delay c) (Cf.burst c) (Cf.limit c) (Cf.queue c) (Cf.timeout c) (Cf.ready c) (Cf.subset c) (Cf.sample c)) (Go.IntKind.wrap .i64 (Int.tmod (Go.IntKind.wrap .u64 a) 10000))) fun o8 =>
                (optK (S.q_most (Cf.mk (Cf.target c) (Cf.util c) (Cf.stable c) (Cf.panic c) (Cf.grain c) (Cf.threshold c) (Cf.up c) (Cf.down c) (Cf.min c) (Cf.max c) (Cf.initial c) (Cf.grace c) (Cf.delay c) (Cf.burst c) (Cf.limit c) (Cf.queue c) (Cf.timeout c) (Cf.ready c) (Cf.subset c) (Cf.sample c)) (Go.IntKind.wrap .i64 (Int.tmod (Go.IntKind.wrap .u64 b) 10000))) fun o9 =>
                  bif decide (o8 ≤ o9) then
                    (optK (S.q_limit (Cf.mk (Cf.target c) (Cf.util c) (Cf.stable c) (Cf.panic c) (Cf.grain c) (Cf.threshold c) (Cf.up c) (Cf.down c) (Cf.min c) (Cf.max c) (Cf.initial c) (Cf.grace c) (Cf.delay c) (Cf.burst c) (Cf.limit c) (Cf.queue c) (Cf.timeout c) (Cf.ready c) (Cf.subset c) (Cf.sample c)) (Go.IntKind.wrap .i64 (Int.tmod (Go.IntKind.wrap .u64 v) 10000)) (Go.IntKind.wrap .i64 (Int.tmod (Go.IntKind.wrap .u64 a) 10000))) fun o11 =>
                      (optK (S.q_limit (Cf.mk (Cf.target c) (Cf.util c) (Cf.stable c) (Cf.panic c) (Cf.grain c) (Cf.threshold c) (Cf.up c) (Cf.down c) (Cf.min c) (Cf.max c) (Cf.initial c) (Cf.grace c) (Cf.delay c) (Cf.burst c) (Cf.limit c) (Cf.queue c) (Cf.timeout c) (Cf.ready c) (Cf.subset c) (Cf.sample c)) (Go.IntKind.wrap .i64 (Int.tmod (Go.IntKind.wrap .u64 w) 10000)) (Go.IntKind.wrap .i64 (Int.tmod (Go.IntKind.wrap .u64 a) 10000))) fun o12 =>
                        bif decide (o11 ≤ o12) then
                          (optK (S.q_limit (Cf.mk (Cf.target c) (Cf.util c) (Cf.stable c) (Cf.panic c) (Cf.grain c) (Cf.threshold c) (Cf.up c) (Cf.down c) (Cf.min c) (Cf.max c) (Cf.initial c) (Cf.grace c) (Cf.delay c) (Cf.burst c) (Cf.limit c) (Cf.queue c) (Cf.timeout c) (Cf.ready c) (Cf.subset c) (Cf.sample c)) (Go.IntKind.wrap .i64 (Int.tmod (Go.IntKind.wrap .u64 v) 10000)) (Go.IntKind.wrap .i64 (Int.tmod (Go.IntKind.wrap .u64 a) 10000))) fun o14 =>
                            (optK (S.q_limit (Cf.mk (Cf.target c) (Cf.util c) (Cf.stable c) (Cf.panic c) (Cf.grain c) (Cf.threshold c) (Cf.up c) (Cf.down c) (Cf.min c) (Cf.max c) (Cf.initial c) (Cf.grace c) (Cf.delay c) (Cf.burst c) (Cf.limit c) (Cf.queue c) (Cf.timeout c) (Cf.ready c) (Cf.subset c) (Cf.sample c)) (Go.IntKind.wrap .i64 (Int.tmod (Go.IntKind.wrap .u64 v) 10000)) (Go.IntKind.wrap .i64 (Int.tmod (Go.IntKind.wrap .u64 b) 10000))) fun o15 =>
                              some (decide (o14 ≤ o15))))
                        else
                          some (false)))
                  else
                    some (false)))
            else
              some (false)))
      else
        (optK (S.q_least (Cf.mk (Cf.target c) (Cf.util c) (Cf.stable c) (Cf.panic c) (Cf.grain c) (Cf.threshold c) (Cf.up c) (Cf.down c) (Cf.min c) (Cf.max c) (Cf.initial c) (Cf.grace c) (Cf.delay c) (Cf.burst c) (Cf.limit c) (Cf.queue c) (Cf.timeout c) (Cf.ready c) (Cf.subset c) (Cf.sample c)) (Go.IntKind.wrap .i64 (Int.tmod (Go.IntKind.wrap .u64 a) 10000))) fun o5 =>
          (optK (S.q_least (Cf.mk (Cf.target c) (Cf.util c) (Cf.stable c) (Cf.panic c) (Cf.grain c) (Cf.threshold c) (Cf.up c) (Cf.down c) (Cf.min c) (Cf.max c) (Cf.initial c) (Cf.grace c) (Cf.delay c) (Cf.burst c) (Cf.limit c) (Cf.queue c) (Cf.timeout c) (Cf.ready c) (Cf.subset c) (Cf.sample c)) (Go.IntKind.wrap .i64 (Int.tmod (Go.IntKind.wrap .u64 b) 10000))) fun o6 =>
            bif decide (o5 ≤ o6) then
              (optK (S.q_most (Cf.mk (Cf.target c) (Cf.util c) (Cf.stable c) (Cf.panic c) (Cf.grain c) (Cf.threshold c) (Cf.up c) (Cf.down c) (Cf.min c) (Cf.max c) (Cf.initial c) (Cf.grace c) (Cf.delay c) (Cf.burst c) (Cf.limit c) (Cf.queue c) (Cf.timeout c) (Cf.ready c) (Cf.subset c) (Cf.sample c)) (Go.IntKind.wrap .i64 (Int.tmod (Go.IntKind.wrap .u64 a) 10000))) fun o8 =>
                (optK (S.q_most (Cf.mk (Cf.target c) (Cf.util c) (Cf.stable c) (Cf.panic c) (Cf.grain c) (Cf.threshold c) (Cf.up c) (Cf.down c) (Cf.min c) (Cf.max c) (Cf.initial c) (Cf.grace c) (Cf.delay c) (Cf.burst c) (Cf.limit c) (Cf.queue c) (Cf.timeout c) (Cf.ready c) (Cf.subset c) (Cf.sample c)) (Go.IntKind.wrap .i64 (Int.tmod (Go.IntKind.wrap .u64 b) 10000))) fun o9 =>
                  bif decide (o8 ≤ o9) then
                    (optK (S.q_limit (Cf.mk (Cf.target c) (Cf.util c) (Cf.stable c) (Cf.panic c) (Cf.grain c) (Cf.threshold c) (Cf.up c) (Cf.down c) (Cf.min c) (Cf.max c) (Cf.initial c) (Cf.grace c) (Cf.delay c) (Cf.burst c) (Cf.limit c) (Cf.queue c) (Cf.timeout c) (Cf.ready c) (Cf.subset c) (Cf.sample c)) (Go.IntKind.wrap .i64 (Int.tmod (Go.IntKind.wrap .u64 w) 10000)) (Go.IntKind.wrap .i64 (Int.tmod (Go.IntKind.wrap .u64 a) 10000))) fun o11 =>
                      (optK (S.q_limit (Cf.mk (Cf.target c) (Cf.util c) (Cf.stable c) (Cf.panic c) (Cf.grain c) (Cf.threshold c) (Cf.up c) (Cf.down c) (Cf.min c) (Cf.max c) (Cf.initial c) (Cf.grace c) (Cf.delay c) (Cf.burst c) (Cf.limit c) (Cf.queue c) (Cf.timeout c) (Cf.ready c) (Cf.subset c) (Cf.sample c)) (Go.IntKind.wrap .i64 (Int.tmod (Go.IntKind.wrap .u64 v) 10000)) (Go.IntKind.wrap .i64 (Int.tmod (Go.IntKind.wrap .u64 a) 10000))) fun o12 =>
                        bif decide (o11 ≤ o12) then
                          (optK (S.q_limit (Cf.mk (Cf.target c) (Cf.util c) (Cf.stable c) (Cf.panic c) (Cf.grain c) (Cf.threshold c) (Cf.up c) (Cf.down c) (Cf.min c) (Cf.max c) (Cf.initial c) (Cf.grace c) (Cf.delay c) (Cf.burst c) (Cf.limit c) (Cf.queue c) (Cf.timeout c) (Cf.ready c) (Cf.subset c) (Cf.sample c)) (Go.IntKind.wrap .i64 (Int.tmod (Go.IntKind.wrap .u64 w) 10000)) (Go.IntKind.wrap .i64 (Int.tmod (Go.IntKind.wrap .u64 a) 10000))) fun o14 =>
                            (optK (S.q_limit (Cf.mk (Cf.target c) (Cf.util c) (Cf.stable c) (Cf.panic c) (Cf.grain c) (Cf.threshold c) (Cf.up c) (Cf.down c) (Cf.min c) (Cf.max c) (Cf.initial c) (Cf.grace c) (Cf.delay c) (Cf.burst c) (Cf.limit c) (Cf.queue c) (Cf.timeout c) (Cf.ready c) (Cf.subset c) (Cf.sample c)) (Go.IntKind.wrap .i64 (Int.tmod (Go.IntKind.wrap .u64 w) 10000)) (Go.IntKind.wrap .i64 (Int.tmod (Go.IntKind.wrap .u64 b) 10000))) fun o15 =>
                              some (decide (o14 ≤ o15))))
                        else
                          some (false)))
                  else
                    some (false)))
            else
              some (false)))
theorem S.RateMore_v {R : Type} (c : Cf) (a b w v : Int) (k : AVal → List Blk → Option R) : fnEval tis F10 0 G35s Try.f10 [.agg (cfA c), .int .i64 a, .int .i64 b, .int .i64 w, .int .i64 v] [] k = oK (fun v : Bool => k (.bool v) []) (S.RateMore c a b w v) :=
  (S.RateMore_k c a b w v k).trans (bif_lift (f := (oK (fun v : Bool => k (.bool v) []))) rfl (bif_lift (f := (oK (fun v : Bool => k (.bool v) []))) (bif_lift (f := (oK (fun v : Bool => k (.bool v) []))) (opt_lift fun o5 => (opt_lift fun o6 => (bif_lift (f := (oK (fun v : Bool => k (.bool v) []))) (opt_lift fun o8 => (opt_lift fun o9 => (bif_lift (f := (oK (fun v : Bool => k (.bool v) []))) (opt_lift fun o11 => (opt_lift fun o12 => (bif_lift (f := (oK (fun v : Bool => k (.bool v) []))) (opt_lift fun o14 => (opt_lift fun o15 => rfl)) rfl))) rfl))) rfl))) (opt_lift fun o5 => (opt_lift fun o6 => (bif_lift (f := (oK (fun v : Bool => k (.bool v) []))) (opt_lift fun o8 => (opt_lift fun o9 => (bif_lift (f := (oK (fun v : Bool => k (.bool v) []))) (opt_lift fun o11 => (opt_lift fun o12 => (bif_lift (f := (oK (fun v : Bool => k (.bool v) []))) (opt_lift fun o14 => (opt_lift fun o15 => rfl)) rfl))) rfl))) rfl)))) (bif_lift (f := (oK (fun v : Bool => k (.bool v) []))) (opt_lift fun o5 => (opt_lift fun o6 => (bif_lift (f := (oK (fun v : Bool => k (.bool v) []))) (opt_lift fun o8 => (opt_lift fun o9 => (bif_lift (f := (oK (fun v : Bool => k (.bool v) []))) (opt_lift fun o11 => (opt_lift fun o12 => (bif_lift (f := (oK (fun v : Bool => k (.bool v) []))) (opt_lift fun o14 => (opt_lift fun o15 => rfl)) rfl))) rfl))) rfl))) (opt_lift fun o5 => (opt_lift fun o6 => (bif_lift (f := (oK (fun v : Bool => k (.bool v) []))) (opt_lift fun o8 => (opt_lift fun o9 => (bif_lift (f := (oK (fun v : Bool => k (.bool v) []))) (opt_lift fun o11 => (opt_lift fun o12 => (bif_lift (f := (oK (fun v : Bool => k (.bool v) []))) (opt_lift fun o14 => (opt_lift fun o15 => rfl)) rfl))) rfl))) rfl))))))
noncomputable def H10 : Hnd := fun R args σ k => match args, σ with
  | [.agg [.int .i64 target_, .int .i64 util_, .int .i64 stable_, .int .i64 panic_, .int .i64 grain_, .int .i64 threshold_, .int .i64 up_, .int .i64 down_, .int .i64 min_, .int .i64 max_, .int .i64 initial_, .int .i64 grace_, .int .i64 delay_, .int .i64 burst_, .int .i64 limit_, .int .i64 queue_, .int .i64 timeout_, .int .i64 ready_, .int .i64 subset_, .int .i64 sample_], .int .i64 a, .int .i64 b, .int .i64 w, .int .i64 v], [] => oK (fun v : Bool => k (.bool v) []) (S.RateMore ⟨target_, util_, stable_, panic_, grain_, threshold_, up_, down_, min_, max_, initial_, grace_, delay_, burst_, limit_, queue_, timeout_, ready_, subset_, sample_⟩ a b w v)
  | _, _ => none
theorem H10_ok : HndOk Try.prog 10 H10 := hnd_ok tis tisOk mixOk G35s_ok F10 Try.func10 rfl (by
  intro R args σ k r h
  unfold H10 at h
  split at h
  · rename_i target_ util_ stable_ panic_ grain_ threshold_ up_ down_ min_ max_ initial_ grace_ delay_ burst_ limit_ queue_ timeout_ ready_ subset_ sample_ a b w v; exact ⟨0, (S.RateMore_v ⟨target_, util_, stable_, panic_, grain_, threshold_, up_, down_, min_, max_, initial_, grace_, delay_, burst_, limit_, queue_, timeout_, ready_, subset_, sample_⟩ a b w v _).trans h⟩
  · cases h)
noncomputable def G10 : Env := Env.add 10 H10 G35s
theorem G10_ok : EnvOk Try.prog G10 := envAdd_ok H10_ok G35s_ok
end Go.Proofs.Ytdcfjndlmmldpaa.AB
