/- WantMore, as a plain function. -/
import Derived.Test.YtdflpflffccmgaaSwantz
namespace Go.Proofs.Ytdflpflffccmgaa.AB
set_option linter.unusedVariables false

/-! spinnakerlaw12.WantMore -/
def F8 : FCfg := ⟨keepAt [(0, [1, 2, 3, 4, 5, 6]), (1, [1, 2, 3, 4, 5, 6, 17]), (2, [1, 2, 3, 4, 5, 6]), (3, [1, 2, 3, 6, 13, 14]), (4, [12])], loopAt [], []⟩
theorem S.WantMore_k {R : Type} (c : Cf) (a b w r x : Int) (k : AVal → List Blk → Option R) : fnEval tis F8 0 G27s Try.f8 [.agg (cfA c), .int .i64 a, .int .i64 b, .int .i64 w, .int .i64 r, .int .i64 x] [] k =
  (bif decide (b < a) then
    (optK (S.q_wof (Cf.mk (Cf.target c) (Cf.util c) (Cf.stable c) (Cf.panic c) (Cf.grain c) (Cf.threshold c) (Cf.up c) (Cf.down c) (Cf.min c) (Cf.max c) (Cf.initial c) (Cf.grace c) (Cf.delay c) (Cf.burst c) (Cf.limit c) (Cf.queue c) (Cf.timeout c) (Cf.ready c) (Cf.subset c) (Cf.sample c)) b) fun o3 =>
      (optK (S.q_wof (Cf.mk (Cf.target c) (Cf.util c) (Cf.stable c) (Cf.panic c) (Cf.grain c) (Cf.threshold c) (Cf.up c) (Cf.down c) (Cf.min c) (Cf.max c) (Cf.initial c) (Cf.grace c) (Cf.delay c) (Cf.burst c) (Cf.limit c) (Cf.queue c) (Cf.timeout c) (Cf.ready c) (Cf.subset c) (Cf.sample c)) a) fun o4 =>
        bif decide (o3 ≤ o4) then
          bif !S.q_wover (Cf.mk (Cf.target c) (Cf.util c) (Cf.stable c) (Cf.panic c) (Cf.grain c) (Cf.threshold c) (Cf.up c) (Cf.down c) (Cf.min c) (Cf.max c) (Cf.initial c) (Cf.grace c) (Cf.delay c) (Cf.burst c) (Cf.limit c) (Cf.queue c) (Cf.timeout c) (Cf.ready c) (Cf.subset c) (Cf.sample c)) w (Go.IntKind.wrap .i64 (Go.IntKind.wrap .i64 (Int.tmod (Go.IntKind.wrap .u64 r) 1000) + Go.IntKind.wrap .i64 (Int.tmod (Go.IntKind.wrap .u64 x) 1000))) then
            k (.bool true) ([])
          else
            k (.bool (S.q_wover (Cf.mk (Cf.target c) (Cf.util c) (Cf.stable c) (Cf.panic c) (Cf.grain c) (Cf.threshold c) (Cf.up c) (Cf.down c) (Cf.min c) (Cf.max c) (Cf.initial c) (Cf.grace c) (Cf.delay c) (Cf.burst c) (Cf.limit c) (Cf.queue c) (Cf.timeout c) (Cf.ready c) (Cf.subset c) (Cf.sample c)) w (Go.IntKind.wrap .i64 (Int.tmod (Go.IntKind.wrap .u64 r) 1000)))) ([])
        else
          k (.bool false) ([])))
  else
    (optK (S.q_wof (Cf.mk (Cf.target c) (Cf.util c) (Cf.stable c) (Cf.panic c) (Cf.grain c) (Cf.threshold c) (Cf.up c) (Cf.down c) (Cf.min c) (Cf.max c) (Cf.initial c) (Cf.grace c) (Cf.delay c) (Cf.burst c) (Cf.limit c) (Cf.queue c) (Cf.timeout c) (Cf.ready c) (Cf.subset c) (Cf.sample c)) a) fun o3 =>
      (optK (S.q_wof (Cf.mk (Cf.target c) (Cf.util c) (Cf.stable c) (Cf.panic c) (Cf.grain c) (Cf.threshold c) (Cf.up c) (Cf.down c) (Cf.min c) (Cf.max c) (Cf.initial c) (Cf.grace c) (Cf.delay c) (Cf.burst c) (Cf.limit c) (Cf.queue c) (Cf.timeout c) (Cf.ready c) (Cf.subset c) (Cf.sample c)) b) fun o4 =>
        bif decide (o3 ≤ o4) then
          bif !S.q_wover (Cf.mk (Cf.target c) (Cf.util c) (Cf.stable c) (Cf.panic c) (Cf.grain c) (Cf.threshold c) (Cf.up c) (Cf.down c) (Cf.min c) (Cf.max c) (Cf.initial c) (Cf.grace c) (Cf.delay c) (Cf.burst c) (Cf.limit c) (Cf.queue c) (Cf.timeout c) (Cf.ready c) (Cf.subset c) (Cf.sample c)) w (Go.IntKind.wrap .i64 (Go.IntKind.wrap .i64 (Int.tmod (Go.IntKind.wrap .u64 r) 1000) + Go.IntKind.wrap .i64 (Int.tmod (Go.IntKind.wrap .u64 x) 1000))) then
            k (.bool true) ([])
          else
            k (.bool (S.q_wover (Cf.mk (Cf.target c) (Cf.util c) (Cf.stable c) (Cf.panic c) (Cf.grain c) (Cf.threshold c) (Cf.up c) (Cf.down c) (Cf.min c) (Cf.max c) (Cf.initial c) (Cf.grace c) (Cf.delay c) (Cf.burst c) (Cf.limit c) (Cf.queue c) (Cf.timeout c) (Cf.ready c) (Cf.subset c) (Cf.sample c)) w (Go.IntKind.wrap .i64 (Int.tmod (Go.IntKind.wrap .u64 r) 1000)))) ([])
        else
          k (.bool false) ([])))) := by kernel_rfl
noncomputable def S.WantMore (c : Cf) (a b w r x : Int) : Option (Bool) :=
  bif decide (b < a) then
    (optK (S.q_wof (Cf.mk (Cf.target c) (Cf.util c) (Cf.stable c) (Cf.panic c) (Cf.grain c) (Cf.threshold c) (Cf.up c) (Cf.down c) (Cf.min c) (Cf.max c) (Cf.initial c) (Cf.grace c) (Cf.delay c) (Cf.burst c) (Cf.limit c) (Cf.queue c) (Cf.timeout c) (Cf.ready c) (Cf.subset c) (Cf.sample c)) b) fun o3 =>
      (optK (S.q_wof (Cf.mk (Cf.target c) (Cf.util c) (Cf.stable c) (Cf.panic c) (Cf.grain c) (Cf.threshold c) (Cf.up c) (Cf.down c) (Cf.min c) (Cf.max c) (Cf.initial c) (Cf.grace c) (Cf.delay c) (Cf.burst c) (Cf.limit c) (Cf.queue c) (Cf.timeout c) (Cf.ready c) (Cf.subset c) (Cf.sample c)) a) fun o4 =>
        bif decide (o3 ≤ o4) then
          bif !S.q_wover (Cf.mk (Cf.target c) (Cf.util c) (Cf.stable c) (Cf.panic c) (Cf.grain c) (Cf.threshold c) (Cf.up c) (Cf.down c) (Cf.min c) (Cf.max c) (Cf.initial c) (Cf.grace c) (Cf.delay c) (Cf.burst c) (Cf.limit c) (Cf.queue c) (Cf.timeout c) (Cf.ready c) (Cf.subset c) (Cf.sample c)) w (Go.IntKind.wrap .i64 (Go.IntKind.wrap .i64 (Int.tmod (Go.IntKind.wrap .u64 r) 1000) + Go.IntKind.wrap .i64 (Int.tmod (Go.IntKind.wrap .u64 x) 1000))) then
            some (true)
          else
            some (S.q_wover (Cf.mk (Cf.target c) (Cf.util c) (Cf.stable c) (Cf.panic c) (Cf.grain c) (Cf.threshold c) (Cf.up c) (Cf.down c) (Cf.min c) (Cf.max c) (Cf.initial c) (Cf.grace c) (Cf.delay c) (Cf.burst c) (Cf.limit c) (Cf.queue c) (Cf.timeout c) (Cf.ready c) (Cf.subset c) (Cf.sample c)) w (Go.IntKind.wrap .i64 (Int.tmod (Go.IntKind.wrap .u64 r) 1000)))
        else
          some (false)))
  else
    (optK (S.q_wof (Cf.mk (Cf.target c) (Cf.util c) (Cf.stable c) (Cf.panic c) (Cf.grain c) (Cf.threshold c) (Cf.up c) (Cf.down c) (Cf.min c) (Cf.max c) (Cf.initial c) (Cf.grace c) (Cf.delay c) (Cf.burst c) (Cf.limit c) (Cf.queue c) (Cf.timeout c) (Cf.ready c) (Cf.subset c) (Cf.sample c)) a) fun o3 =>
      (optK (S.q_wof (Cf.mk (Cf.target c) (Cf.util c) (Cf.stable c) (Cf.panic c) (Cf.grain c) (Cf.threshold c) (Cf.up c) (Cf.down c) (Cf.min c) (Cf.max c) (Cf.initial c) (Cf.grace c) (Cf.delay c) (Cf.burst c) (Cf.limit c) (Cf.queue c) (Cf.timeout c) (Cf.ready c) (Cf.subset c) (Cf.sample c)) b) fun o4 =>
        bif decide (o3 ≤ o4) then
          bif !S.q_wover (Cf.mk (Cf.target c) (Cf.util c) (Cf.stable c) (Cf.panic c) (Cf.grain c) (Cf.threshold c) (Cf.up c) (Cf.down c) (Cf.min c) (Cf.max c) (Cf.initial c) (Cf.grace c) (Cf.delay c) (Cf.burst c) (Cf.limit c) (Cf.queue c) (Cf.timeout c) (Cf.ready c) (Cf.subset c) (Cf.sample c)) w (Go.IntKind.wrap .i64 (Go.IntKind.wrap .i64 (Int.tmod (Go.IntKind.wrap .u64 r) 1000) + Go.IntKind.wrap .i64 (Int.tmod (Go.IntKind.wrap .u64 x) 1000))) then
            some (true)
          else
            some (S.q_wover (Cf.mk (Cf.target c) (Cf.util c) (Cf.stable c) (Cf.panic c) (Cf.grain c) (Cf.threshold c) (Cf.up c) (Cf.down c) (Cf.min c) (Cf.max c) (Cf.initial c) (Cf.grace c) (Cf.delay c) (Cf.burst c) (Cf.limit c) (Cf.queue c) (Cf.timeout c) (Cf.ready c) (Cf.subset c) (Cf.sample c)) w (Go.IntKind.wrap .i64 (Int.tmod (Go.IntKind.wrap .u64 r) 1000)))
        else
          some (false)))
theorem S.WantMore_v {R : Type} (c : Cf) (a b w r x : Int) (k : AVal → List Blk → Option R) : fnEval tis F8 0 G27s Try.f8 [.agg (cfA c), .int .i64 a, .int .i64 b, .int .i64 w, .int .i64 r, .int .i64 x] [] k = oK (fun v : Bool => k (.bool v) []) (S.WantMore c a b w r x) :=
  (S.WantMore_k c a b w r x k).trans (bif_lift (f := (oK (fun v : Bool => k (.bool v) []))) (opt_lift fun o3 => (opt_lift fun o4 => (bif_lift (f := (oK (fun v : Bool => k (.bool v) []))) (bif_lift (f := (oK (fun v : Bool => k (.bool v) []))) rfl rfl) rfl))) (opt_lift fun o3 => (opt_lift fun o4 => (bif_lift (f := (oK (fun v : Bool => k (.bool v) []))) (bif_lift (f := (oK (fun v : Bool => k (.bool v) []))) rfl rfl) rfl))))
noncomputable def H8 : Hnd := fun R args σ k => match args, σ with
  | [.agg [.int .i64 target_, .int .i64 util_, .int .i64 stable_, .int .i64 panic_, .int .i64 grain_, .int .i64 threshold_, .int .i64 up_, .int .i64 down_, .int .i64 min_, .int .i64 max_, .int .i64 initial_, .int .i64 grace_, .int .i64 delay_, .int .i64 burst_, .int .i64 limit_, .int .i64 queue_, .int .i64 timeout_, .int .i64 ready_, .int .i64 subset_, .int .i64 sample_], .int .i64 a, .int .i64 b, .int .i64 w, .int .i64 r, .int .i64 x], [] => oK (fun v : Bool => k (.bool v) []) (S.WantMore ⟨target_, util_, stable_, panic_, grain_, threshold_, up_, down_, min_, max_, initial_, grace_, delay_, burst_, limit_, queue_, timeout_, ready_, subset_, sample_⟩ a b w r x)
  | _, _ => none
theorem H8_ok : HndOk Try.prog 8 H8 := hnd_ok tis tisOk mixOk G27s_ok F8 Try.func8 rfl (by
  intro R args σ k r h
  unfold H8 at h
  split at h
  · rename_i target_ util_ stable_ panic_ grain_ threshold_ up_ down_ min_ max_ initial_ grace_ delay_ burst_ limit_ queue_ timeout_ ready_ subset_ sample_ a b w r x; exact ⟨0, (S.WantMore_v ⟨target_, util_, stable_, panic_, grain_, threshold_, up_, down_, min_, max_, initial_, grace_, delay_, burst_, limit_, queue_, timeout_, ready_, subset_, sample_⟩ a b w r x _).trans h⟩
  · cases h)
noncomputable def G8 : Env := Env.add 8 H8 G27s
theorem G8_ok : EnvOk Try.prog G8 := envAdd_ok H8_ok G27s_ok
end Go.Proofs.Ytdflpflffccmgaa.AB
