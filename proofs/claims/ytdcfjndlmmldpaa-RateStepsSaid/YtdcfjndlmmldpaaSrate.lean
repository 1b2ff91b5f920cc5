/- The functions of layer 13, as plain functions. -/
import Derived.Test.YtdcfjndlmmldpaaSmilli
namespace Go.Proofs.Ytdcfjndlmmldpaa.AB
set_option linter.unusedVariables false

/-! rate.there -/
def F44 : FCfg := ⟨keepAt [(0, [0, 1]), (1, [1, 5, 6]), (2, [1, 5, 13]), (3, [4]), (4, [4])], loopAt [], []⟩
theorem S.rthere_k {R : Type} (n lo : Int) (k : AVal → List Blk → Option R) : fnEval tis F44 0 G42 Try.f44 [.iface 3 (.int .i64 n), .int .i64 lo] [] k =
  (k (.int .i64 (if 1000000 < if lo > n then lo else n then 1000000 else if lo > n then lo else n)) ([])) := by kernel_rfl
def S.rthere (n lo : Int) : Int :=
  (if 1000000 < if lo > n then lo else n then 1000000 else if lo > n then lo else n)
theorem S.rthere_v {R : Type} (n lo : Int) (k : AVal → List Blk → Option R) : fnEval tis F44 0 G42 Try.f44 [.iface 3 (.int .i64 n), .int .i64 lo] [] k = k (.int .i64 (S.rthere n lo)) [] :=
  (S.rthere_k n lo k).trans rfl
def H44 : Hnd := fun R args σ k => match args, σ with
  | [.iface 3 (.int .i64 n), .int .i64 lo], [] => k (.int .i64 (S.rthere n lo)) []
  | _, _ => none
theorem H44_ok : HndOk Try.prog 44 H44 := hnd_ok tis tisOk mixOk G42_ok F44 Try.func44 rfl (by
  intro R args σ k r h
  unfold H44 at h
  split at h
  · rename_i n lo; exact ⟨0, (S.rthere_v n lo _).trans h⟩
  · cases h)
def G44 : Env := Env.add 44 H44 G42
theorem G44_ok : EnvOk Try.prog G44 := envAdd_ok H44_ok G42_ok

/-! rate.Most -/
def F31 : FCfg := ⟨keepAt [(0, [1, 2]), (1, [1, 2, 9]), (2, [4]), (3, [5]), (4, [4])], loopAt [], []⟩
theorem S.most_k {R : Type} (c : Cf) (r : Int) (k : AVal → List Blk → Option R) : fnEval tis F31 0 G44 Try.f31 [.agg (cfA c), .int .i64 r] [] k =
  (bif !S.may (Cf.mk (Cf.target c) (Cf.util c) (Cf.stable c) (Cf.panic c) (Cf.grain c) (Cf.threshold c) (Cf.up c) (Cf.down c) (Cf.min c) (Cf.max c) (Cf.initial c) (Cf.grace c) (Cf.delay c) (Cf.burst c) (Cf.limit c) (Cf.queue c) (Cf.timeout c) (Cf.ready c) (Cf.subset c) (Cf.sample c)) then
    k (.int .i64 0) ([])
  else
    (optK (S.mup (Go.IntKind.wrap .i64 (Cf.up c * S.rthere r 1)) 1000) fun o3 =>
      k (.int .i64 (if 1000000 < Prod.fst o3 then 1000000 else Prod.fst o3)) ([]))) := by kernel_rfl
def S.most (c : Cf) (r : Int) : Option (Int) :=
  bif !S.may (Cf.mk (Cf.target c) (Cf.util c) (Cf.stable c) (Cf.panic c) (Cf.grain c) (Cf.threshold c) (Cf.up c) (Cf.down c) (Cf.min c) (Cf.max c) (Cf.initial c) (Cf.grace c) (Cf.delay c) (Cf.burst c) (Cf.limit c) (Cf.queue c) (Cf.timeout c) (Cf.ready c) (Cf.subset c) (Cf.sample c)) then
    some (0)
  else
    (optK (S.mup (Go.IntKind.wrap .i64 (Cf.up c * S.rthere r 1)) 1000) fun o3 =>
      some (if 1000000 < Prod.fst o3 then 1000000 else Prod.fst o3))
theorem S.most_v {R : Type} (c : Cf) (r : Int) (k : AVal → List Blk → Option R) : fnEval tis F31 0 G44 Try.f31 [.agg (cfA c), .int .i64 r] [] k = oK (fun v : Int => k (.int .i64 v) []) (S.most c r) :=
  (S.most_k c r k).trans (bif_lift (f := (oK (fun v : Int => k (.int .i64 v) []))) rfl (opt_lift fun o3 => rfl))
def H31 : Hnd := fun R args σ k => match args, σ with
  | [.agg [.int .i64 target_, .int .i64 util_, .int .i64 stable_, .int .i64 panic_, .int .i64 grain_, .int .i64 threshold_, .int .i64 up_, .int .i64 down_, .int .i64 min_, .int .i64 max_, .int .i64 initial_, .int .i64 grace_, .int .i64 delay_, .int .i64 burst_, .int .i64 limit_, .int .i64 queue_, .int .i64 timeout_, .int .i64 ready_, .int .i64 subset_, .int .i64 sample_], .int .i64 r], [] => oK (fun v : Int => k (.int .i64 v) []) (S.most ⟨target_, util_, stable_, panic_, grain_, threshold_, up_, down_, min_, max_, initial_, grace_, delay_, burst_, limit_, queue_, timeout_, ready_, subset_, sample_⟩ r)
  | _, _ => none
theorem H31_ok : HndOk Try.prog 31 H31 := hnd_ok tis tisOk mixOk G44_ok F31 Try.func31 rfl (by
  intro R args σ k r h
  unfold H31 at h
  split at h
  · rename_i target_ util_ stable_ panic_ grain_ threshold_ up_ down_ min_ max_ initial_ grace_ delay_ burst_ limit_ queue_ timeout_ ready_ subset_ sample_ r; exact ⟨0, (S.most_v ⟨target_, util_, stable_, panic_, grain_, threshold_, up_, down_, min_, max_, initial_, grace_, delay_, burst_, limit_, queue_, timeout_, ready_, subset_, sample_⟩ r _).trans h⟩
  · cases h)
def G31 : Env := Env.add 31 H31 G44
theorem G31_ok : EnvOk Try.prog G31 := envAdd_ok H31_ok G44_ok

/-! rate.Least -/
def F30 : FCfg := ⟨keepAt [(0, [1, 2]), (1, [1, 2, 9]), (2, [4]), (3, [5]), (4, [4])], loopAt [], []⟩
theorem S.least_k {R : Type} (c : Cf) (r : Int) (k : AVal → List Blk → Option R) : fnEval tis F30 0 G31 Try.f30 [.agg (cfA c), .int .i64 r] [] k =
  (bif !S.may (Cf.mk (Cf.target c) (Cf.util c) (Cf.stable c) (Cf.panic c) (Cf.grain c) (Cf.threshold c) (Cf.up c) (Cf.down c) (Cf.min c) (Cf.max c) (Cf.initial c) (Cf.grace c) (Cf.delay c) (Cf.burst c) (Cf.limit c) (Cf.queue c) (Cf.timeout c) (Cf.ready c) (Cf.subset c) (Cf.sample c)) then
    k (.int .i64 0) ([])
  else
    (optK (S.mdown (Go.IntKind.wrap .i64 (1000 * S.rthere r 0)) (Cf.down c)) fun o3 =>
      k (.int .i64 (Prod.fst o3)) ([]))) := by kernel_rfl
def S.least (c : Cf) (r : Int) : Option (Int) :=
  bif !S.may (Cf.mk (Cf.target c) (Cf.util c) (Cf.stable c) (Cf.panic c) (Cf.grain c) (Cf.threshold c) (Cf.up c) (Cf.down c) (Cf.min c) (Cf.max c) (Cf.initial c) (Cf.grace c) (Cf.delay c) (Cf.burst c) (Cf.limit c) (Cf.queue c) (Cf.timeout c) (Cf.ready c) (Cf.subset c) (Cf.sample c)) then
    some (0)
  else
    (optK (S.mdown (Go.IntKind.wrap .i64 (1000 * S.rthere r 0)) (Cf.down c)) fun o3 =>
      some (Prod.fst o3))
theorem S.least_v {R : Type} (c : Cf) (r : Int) (k : AVal → List Blk → Option R) : fnEval tis F30 0 G31 Try.f30 [.agg (cfA c), .int .i64 r] [] k = oK (fun v : Int => k (.int .i64 v) []) (S.least c r) :=
  (S.least_k c r k).trans (bif_lift (f := (oK (fun v : Int => k (.int .i64 v) []))) rfl (opt_lift fun o3 => rfl))
def H30 : Hnd := fun R args σ k => match args, σ with
  | [.agg [.int .i64 target_, .int .i64 util_, .int .i64 stable_, .int .i64 panic_, .int .i64 grain_, .int .i64 threshold_, .int .i64 up_, .int .i64 down_, .int .i64 min_, .int .i64 max_, .int .i64 initial_, .int .i64 grace_, .int .i64 delay_, .int .i64 burst_, .int .i64 limit_, .int .i64 queue_, .int .i64 timeout_, .int .i64 ready_, .int .i64 subset_, .int .i64 sample_], .int .i64 r], [] => oK (fun v : Int => k (.int .i64 v) []) (S.least ⟨target_, util_, stable_, panic_, grain_, threshold_, up_, down_, min_, max_, initial_, grace_, delay_, burst_, limit_, queue_, timeout_, ready_, subset_, sample_⟩ r)
  | _, _ => none
theorem H30_ok : HndOk Try.prog 30 H30 := hnd_ok tis tisOk mixOk G31_ok F30 Try.func30 rfl (by
  intro R args σ k r h
  unfold H30 at h
  split at h
  · rename_i target_ util_ stable_ panic_ grain_ threshold_ up_ down_ min_ max_ initial_ grace_ delay_ burst_ limit_ queue_ timeout_ ready_ subset_ sample_ r; exact ⟨0, (S.least_v ⟨target_, util_, stable_, panic_, grain_, threshold_, up_, down_, min_, max_, initial_, grace_, delay_, burst_, limit_, queue_, timeout_, ready_, subset_, sample_⟩ r _).trans h⟩
  · cases h)
def G30 : Env := Env.add 30 H30 G31
theorem G30_ok : EnvOk Try.prog G30 := envAdd_ok H30_ok G31_ok

/-! rate.Limit -/
def F32 : FCfg := ⟨keepAt [(0, [1, 2, 3]), (1, [1, 2, 3, 9]), (2, [6]), (3, [6])], loopAt [], []⟩
theorem S.limit_k {R : Type} (c : Cf) (w r : Int) (k : AVal → List Blk → Option R) : fnEval tis F32 0 G30 Try.f32 [.agg (cfA c), .int .i64 w, .int .i64 r] [] k =
  (bif !S.may (Cf.mk (Cf.target c) (Cf.util c) (Cf.stable c) (Cf.panic c) (Cf.grain c) (Cf.threshold c) (Cf.up c) (Cf.down c) (Cf.min c) (Cf.max c) (Cf.initial c) (Cf.grace c) (Cf.delay c) (Cf.burst c) (Cf.limit c) (Cf.queue c) (Cf.timeout c) (Cf.ready c) (Cf.subset c) (Cf.sample c)) then
    k (.int .i64 0) ([])
  else
    (optK (S.least (Cf.mk (Cf.target c) (Cf.util c) (Cf.stable c) (Cf.panic c) (Cf.grain c) (Cf.threshold c) (Cf.up c) (Cf.down c) (Cf.min c) (Cf.max c) (Cf.initial c) (Cf.grace c) (Cf.delay c) (Cf.burst c) (Cf.limit c) (Cf.queue c) (Cf.timeout c) (Cf.ready c) (Cf.subset c) (Cf.sample c)) r) fun o3 =>
      (optK (S.most (Cf.mk (Cf.target c) (Cf.util c) (Cf.stable c) (Cf.panic c) (Cf.grain c) (Cf.threshold c) (Cf.up c) (Cf.down c) (Cf.min c) (Cf.max c) (Cf.initial c) (Cf.grace c) (Cf.delay c) (Cf.burst c) (Cf.limit c) (Cf.queue c) (Cf.timeout c) (Cf.ready c) (Cf.subset c) (Cf.sample c)) r) fun o4 =>
        k (.int .i64 (if o4 < if o3 > w then o3 else w then o4 else if o3 > w then o3 else w)) ([])))) := by kernel_rfl
def S.limit (c : Cf) (w r : Int) : Option (Int) :=
  bif !S.may (Cf.mk (Cf.target c) (Cf.util c) (Cf.stable c) (Cf.panic c) (Cf.grain c) (Cf.threshold c) (Cf.up c) (Cf.down c) (Cf.min c) (Cf.max c) (Cf.initial c) (Cf.grace c) (Cf.delay c) (Cf.burst c) (Cf.limit c) (Cf.queue c) (Cf.timeout c) (Cf.ready c) (Cf.subset c) (Cf.sample c)) then
    some (0)
  else
    (optK (S.least (Cf.mk (Cf.target c) (Cf.util c) (Cf.stable c) (Cf.panic c) (Cf.grain c) (Cf.threshold c) (Cf.up c) (Cf.down c) (Cf.min c) (Cf.max c) (Cf.initial c) (Cf.grace c) (Cf.delay c) (Cf.burst c) (Cf.limit c) (Cf.queue c) (Cf.timeout c) (Cf.ready c) (Cf.subset c) (Cf.sample c)) r) fun o3 =>
      (optK (S.most (Cf.mk (Cf.target c) (Cf.util c) (Cf.stable c) (Cf.panic c) (Cf.grain c) (Cf.threshold c) (Cf.up c) (Cf.down c) (Cf.min c) (Cf.max c) (Cf.initial c) (Cf.grace c) (Cf.delay c) (Cf.burst c) (Cf.limit c) (Cf.queue c) (Cf.timeout c) (Cf.ready c) (Cf.subset c) (Cf.sample c)) r) fun o4 =>
        some (if o4 < if o3 > w then o3 else w then o4 else if o3 > w then o3 else w)))
theorem S.limit_v {R : Type} (c : Cf) (w r : Int) (k : AVal → List Blk → Option R) : fnEval tis F32 0 G30 Try.f32 [.agg (cfA c), .int .i64 w, .int .i64 r] [] k = oK (fun v : Int => k (.int .i64 v) []) (S.limit c w r) :=
  (S.limit_k c w r k).trans (bif_lift (f := (oK (fun v : Int => k (.int .i64 v) []))) rfl (opt_lift fun o3 => (opt_lift fun o4 => rfl)))
def H32 : Hnd := fun R args σ k => match args, σ with
  | [.agg [.int .i64 target_, .int .i64 util_, .int .i64 stable_, .int .i64 panic_, .int .i64 grain_, .int .i64 threshold_, .int .i64 up_, .int .i64 down_, .int .i64 min_, .int .i64 max_, .int .i64 initial_, .int .i64 grace_, .int .i64 delay_, .int .i64 burst_, .int .i64 limit_, .int .i64 queue_, .int .i64 timeout_, .int .i64 ready_, .int .i64 subset_, .int .i64 sample_], .int .i64 w, .int .i64 r], [] => oK (fun v : Int => k (.int .i64 v) []) (S.limit ⟨target_, util_, stable_, panic_, grain_, threshold_, up_, down_, min_, max_, initial_, grace_, delay_, burst_, limit_, queue_, timeout_, ready_, subset_, sample_⟩ w r)
  | _, _ => none
theorem H32_ok : HndOk Try.prog 32 H32 := hnd_ok tis tisOk mixOk G30_ok F32 Try.func32 rfl (by
  intro R args σ k r h
  unfold H32 at h
  split at h
  · rename_i target_ util_ stable_ panic_ grain_ threshold_ up_ down_ min_ max_ initial_ grace_ delay_ burst_ limit_ queue_ timeout_ ready_ subset_ sample_ w r; exact ⟨0, (S.limit_v ⟨target_, util_, stable_, panic_, grain_, threshold_, up_, down_, min_, max_, initial_, grace_, delay_, burst_, limit_, queue_, timeout_, ready_, subset_, sample_⟩ w r _).trans h⟩
  · cases h)
def G32 : Env := Env.add 32 H32 G30
theorem G32_ok : EnvOk Try.prog G32 := envAdd_ok H32_ok G30_ok

/-! spinnakerref12.Most -/
def F33 : FCfg := ⟨keepAt [(0, [1, 2]), (1, [1, 2, 9]), (2, [4]), (3, [5]), (4, [4])], loopAt [], []⟩
theorem S.rmost_k {R : Type} (c : Cf) (r : Int) (k : AVal → List Blk → Option R) : fnEval tis F33 0 G32 Try.f33 [.agg (cfA c), .int .i64 r] [] k =
  (bif !S.rmay (Cf.mk (Cf.target c) (Cf.util c) (Cf.stable c) (Cf.panic c) (Cf.grain c) (Cf.threshold c) (Cf.up c) (Cf.down c) (Cf.min c) (Cf.max c) (Cf.initial c) (Cf.grace c) (Cf.delay c) (Cf.burst c) (Cf.limit c) (Cf.queue c) (Cf.timeout c) (Cf.ready c) (Cf.subset c) (Cf.sample c)) then
    k (.int .i64 0) ([])
  else
    (optK (S.rup (Go.IntKind.wrap .i64 (Cf.up c * S.rcut r 1)) 1000) fun o3 =>
      k (.int .i64 (if 1000000 < Prod.fst o3 then 1000000 else Prod.fst o3)) ([]))) := by kernel_rfl
def S.rmost (c : Cf) (r : Int) : Option (Int) :=
  bif !S.rmay (Cf.mk (Cf.target c) (Cf.util c) (Cf.stable c) (Cf.panic c) (Cf.grain c) (Cf.threshold c) (Cf.up c) (Cf.down c) (Cf.min c) (Cf.max c) (Cf.initial c) (Cf.grace c) (Cf.delay c) (Cf.burst c) (Cf.limit c) (Cf.queue c) (Cf.timeout c) (Cf.ready c) (Cf.subset c) (Cf.sample c)) then
    some (0)
  else
    (optK (S.rup (Go.IntKind.wrap .i64 (Cf.up c * S.rcut r 1)) 1000) fun o3 =>
      some (if 1000000 < Prod.fst o3 then 1000000 else Prod.fst o3))
theorem S.rmost_v {R : Type} (c : Cf) (r : Int) (k : AVal → List Blk → Option R) : fnEval tis F33 0 G32 Try.f33 [.agg (cfA c), .int .i64 r] [] k = oK (fun v : Int => k (.int .i64 v) []) (S.rmost c r) :=
  (S.rmost_k c r k).trans (bif_lift (f := (oK (fun v : Int => k (.int .i64 v) []))) rfl (opt_lift fun o3 => rfl))
def H33 : Hnd := fun R args σ k => match args, σ with
  | [.agg [.int .i64 target_, .int .i64 util_, .int .i64 stable_, .int .i64 panic_, .int .i64 grain_, .int .i64 threshold_, .int .i64 up_, .int .i64 down_, .int .i64 min_, .int .i64 max_, .int .i64 initial_, .int .i64 grace_, .int .i64 delay_, .int .i64 burst_, .int .i64 limit_, .int .i64 queue_, .int .i64 timeout_, .int .i64 ready_, .int .i64 subset_, .int .i64 sample_], .int .i64 r], [] => oK (fun v : Int => k (.int .i64 v) []) (S.rmost ⟨target_, util_, stable_, panic_, grain_, threshold_, up_, down_, min_, max_, initial_, grace_, delay_, burst_, limit_, queue_, timeout_, ready_, subset_, sample_⟩ r)
  | _, _ => none
theorem H33_ok : HndOk Try.prog 33 H33 := hnd_ok tis tisOk mixOk G32_ok F33 Try.func33 rfl (by
  intro R args σ k r h
  unfold H33 at h
  split at h
  · rename_i target_ util_ stable_ panic_ grain_ threshold_ up_ down_ min_ max_ initial_ grace_ delay_ burst_ limit_ queue_ timeout_ ready_ subset_ sample_ r; exact ⟨0, (S.rmost_v ⟨target_, util_, stable_, panic_, grain_, threshold_, up_, down_, min_, max_, initial_, grace_, delay_, burst_, limit_, queue_, timeout_, ready_, subset_, sample_⟩ r _).trans h⟩
  · cases h)
def G33 : Env := Env.add 33 H33 G32
theorem G33_ok : EnvOk Try.prog G33 := envAdd_ok H33_ok G32_ok

/-! spinnakerref12.Least -/
def F34 : FCfg := ⟨keepAt [(0, [1, 2]), (1, [1, 2, 7]), (2, [4]), (3, [4])], loopAt [], []⟩
theorem S.rleast_k {R : Type} (c : Cf) (r : Int) (k : AVal → List Blk → Option R) : fnEval tis F34 0 G33 Try.f34 [.agg (cfA c), .int .i64 r] [] k =
  (bif !S.rmay (Cf.mk (Cf.target c) (Cf.util c) (Cf.stable c) (Cf.panic c) (Cf.grain c) (Cf.threshold c) (Cf.up c) (Cf.down c) (Cf.min c) (Cf.max c) (Cf.initial c) (Cf.grace c) (Cf.delay c) (Cf.burst c) (Cf.limit c) (Cf.queue c) (Cf.timeout c) (Cf.ready c) (Cf.subset c) (Cf.sample c)) then
    k (.int .i64 0) ([])
  else
    bif decide (Cf.down c = 0) then
      none
    else
      k (.int .i64 (Go.IntKind.wrap .i64 (Int.tdiv (Go.IntKind.wrap .i64 (1000 * S.rcut r 0)) (Cf.down c)))) ([])) := by kernel_rfl
def S.rleast (c : Cf) (r : Int) : Option (Int) :=
  bif !S.rmay (Cf.mk (Cf.target c) (Cf.util c) (Cf.stable c) (Cf.panic c) (Cf.grain c) (Cf.threshold c) (Cf.up c) (Cf.down c) (Cf.min c) (Cf.max c) (Cf.initial c) (Cf.grace c) (Cf.delay c) (Cf.burst c) (Cf.limit c) (Cf.queue c) (Cf.timeout c) (Cf.ready c) (Cf.subset c) (Cf.sample c)) then
    some (0)
  else
    bif decide (Cf.down c = 0) then
      none
    else
      some (Go.IntKind.wrap .i64 (Int.tdiv (Go.IntKind.wrap .i64 (1000 * S.rcut r 0)) (Cf.down c)))
theorem S.rleast_v {R : Type} (c : Cf) (r : Int) (k : AVal → List Blk → Option R) : fnEval tis F34 0 G33 Try.f34 [.agg (cfA c), .int .i64 r] [] k = oK (fun v : Int => k (.int .i64 v) []) (S.rleast c r) :=
  (S.rleast_k c r k).trans (bif_lift (f := (oK (fun v : Int => k (.int .i64 v) []))) rfl (bif_lift (f := (oK (fun v : Int => k (.int .i64 v) []))) rfl rfl))
def H34 : Hnd := fun R args σ k => match args, σ with
  | [.agg [.int .i64 target_, .int .i64 util_, .int .i64 stable_, .int .i64 panic_, .int .i64 grain_, .int .i64 threshold_, .int .i64 up_, .int .i64 down_, .int .i64 min_, .int .i64 max_, .int .i64 initial_, .int .i64 grace_, .int .i64 delay_, .int .i64 burst_, .int .i64 limit_, .int .i64 queue_, .int .i64 timeout_, .int .i64 ready_, .int .i64 subset_, .int .i64 sample_], .int .i64 r], [] => oK (fun v : Int => k (.int .i64 v) []) (S.rleast ⟨target_, util_, stable_, panic_, grain_, threshold_, up_, down_, min_, max_, initial_, grace_, delay_, burst_, limit_, queue_, timeout_, ready_, subset_, sample_⟩ r)
  | _, _ => none
theorem H34_ok : HndOk Try.prog 34 H34 := hnd_ok tis tisOk mixOk G33_ok F34 Try.func34 rfl (by
  intro R args σ k r h
  unfold H34 at h
  split at h
  · rename_i target_ util_ stable_ panic_ grain_ threshold_ up_ down_ min_ max_ initial_ grace_ delay_ burst_ limit_ queue_ timeout_ ready_ subset_ sample_ r; exact ⟨0, (S.rleast_v ⟨target_, util_, stable_, panic_, grain_, threshold_, up_, down_, min_, max_, initial_, grace_, delay_, burst_, limit_, queue_, timeout_, ready_, subset_, sample_⟩ r _).trans h⟩
  · cases h)
def G34 : Env := Env.add 34 H34 G33
theorem G34_ok : EnvOk Try.prog G34 := envAdd_ok H34_ok G33_ok

/-! spinnakerref12.Limit -/
def F35 : FCfg := ⟨keepAt [(0, [1, 2, 3]), (1, [1, 2, 3, 9]), (2, [6]), (3, [6])], loopAt [], []⟩
theorem S.rlimit_k {R : Type} (c : Cf) (w r : Int) (k : AVal → List Blk → Option R) : fnEval tis F35 0 G34 Try.f35 [.agg (cfA c), .int .i64 w, .int .i64 r] [] k =
  (bif !S.rmay (Cf.mk (Cf.target c) (Cf.util c) (Cf.stable c) (Cf.panic c) (Cf.grain c) (Cf.threshold c) (Cf.up c) (Cf.down c) (Cf.min c) (Cf.max c) (Cf.initial c) (Cf.grace c) (Cf.delay c) (Cf.burst c) (Cf.limit c) (Cf.queue c) (Cf.timeout c) (Cf.ready c) (Cf.subset c) (Cf.sample c)) then
    k (.int .i64 0) ([])
  else
    (optK (S.rleast (Cf.mk (Cf.target c) (Cf.util c) (Cf.stable c) (Cf.panic c) (Cf.grain c) (Cf.threshold c) (Cf.up c) (Cf.down c) (Cf.min c) (Cf.max c) (Cf.initial c) (Cf.grace c) (Cf.delay c) (Cf.burst c) (Cf.limit c) (Cf.queue c) (Cf.timeout c) (Cf.ready c) (Cf.subset c) (Cf.sample c)) r) fun o3 =>
      (optK (S.rmost (Cf.mk (Cf.target c) (Cf.util c) (Cf.stable c) (Cf.panic c) (Cf.grain c) (Cf.threshold c) (Cf.up c) (Cf.down c) (Cf.min c) (Cf.max c) (Cf.initial c) (Cf.grace c) (Cf.delay c) (Cf.burst c) (Cf.limit c) (Cf.queue c) (Cf.timeout c) (Cf.ready c) (Cf.subset c) (Cf.sample c)) r) fun o4 =>
        k (.int .i64 (if o4 < if o3 > w then o3 else w then o4 else if o3 > w then o3 else w)) ([])))) := by kernel_rfl
def S.rlimit (c : Cf) (w r : Int) : Option (Int) :=
  bif !S.rmay (Cf.mk (Cf.target c) (Cf.util c) (Cf.stable c) (Cf.panic c) (Cf.grain c) (Cf.threshold c) (Cf.up c) (Cf.down c) (Cf.min c) (Cf.max c) (Cf.initial c) (Cf.grace c) (Cf.delay c) (Cf.burst c) (Cf.limit c) (Cf.queue c) (Cf.timeout c) (Cf.ready c) (Cf.subset c) (Cf.sample c)) then
    some (0)
  else
    (optK (S.rleast (Cf.mk (Cf.target c) (Cf.util c) (Cf.stable c) (Cf.panic c) (Cf.grain c) (Cf.threshold c) (Cf.up c) (Cf.down c) (Cf.min c) (Cf.max c) (Cf.initial c) (Cf.grace c) (Cf.delay c) (Cf.burst c) (Cf.limit c) (Cf.queue c) (Cf.timeout c) (Cf.ready c) (Cf.subset c) (Cf.sample c)) r) fun o3 =>
      (optK (S.rmost (Cf.mk (Cf.target c) (Cf.util c) (Cf.stable c) (Cf.panic c) (Cf.grain c) (Cf.threshold c) (Cf.up c) (Cf.down c) (Cf.min c) (Cf.max c) (Cf.initial c) (Cf.grace c) (Cf.delay c) (Cf.burst c) (Cf.limit c) (Cf.queue c) (Cf.timeout c) (Cf.ready c) (Cf.subset c) (Cf.sample c)) r) fun o4 =>
        some (if o4 < if o3 > w then o3 else w then o4 else if o3 > w then o3 else w)))
theorem S.rlimit_v {R : Type} (c : Cf) (w r : Int) (k : AVal → List Blk → Option R) : fnEval tis F35 0 G34 Try.f35 [.agg (cfA c), .int .i64 w, .int .i64 r] [] k = oK (fun v : Int => k (.int .i64 v) []) (S.rlimit c w r) :=
  (S.rlimit_k c w r k).trans (bif_lift (f := (oK (fun v : Int => k (.int .i64 v) []))) rfl (opt_lift fun o3 => (opt_lift fun o4 => rfl)))
def H35 : Hnd := fun R args σ k => match args, σ with
  | [.agg [.int .i64 target_, .int .i64 util_, .int .i64 stable_, .int .i64 panic_, .int .i64 grain_, .int .i64 threshold_, .int .i64 up_, .int .i64 down_, .int .i64 min_, .int .i64 max_, .int .i64 initial_, .int .i64 grace_, .int .i64 delay_, .int .i64 burst_, .int .i64 limit_, .int .i64 queue_, .int .i64 timeout_, .int .i64 ready_, .int .i64 subset_, .int .i64 sample_], .int .i64 w, .int .i64 r], [] => oK (fun v : Int => k (.int .i64 v) []) (S.rlimit ⟨target_, util_, stable_, panic_, grain_, threshold_, up_, down_, min_, max_, initial_, grace_, delay_, burst_, limit_, queue_, timeout_, ready_, subset_, sample_⟩ w r)
  | _, _ => none
theorem H35_ok : HndOk Try.prog 35 H35 := hnd_ok tis tisOk mixOk G34_ok F35 Try.func35 rfl (by
  intro R args σ k r h
  unfold H35 at h
  split at h
  · rename_i target_ util_ stable_ panic_ grain_ threshold_ up_ down_ min_ max_ initial_ grace_ delay_ burst_ limit_ queue_ timeout_ ready_ subset_ sample_ w r; exact ⟨0, (S.rlimit_v ⟨target_, util_, stable_, panic_, grain_, threshold_, up_, down_, min_, max_, initial_, grace_, delay_, burst_, limit_, queue_, timeout_, ready_, subset_, sample_⟩ w r _).trans h⟩
  · cases h)
def G35 : Env := Env.add 35 H35 G34
theorem G35_ok : EnvOk Try.prog G35 := envAdd_ok H35_ok G34_ok

/-! spinnakerlaw13.told -/
def F29 : FCfg := ⟨keepAt [(0, []), (1, [1]), (2, [0])], loopAt [], []⟩
theorem S.told13_k {R : Type}  (k : AVal → List Blk → Option R) : fnEval tis F29 0 G35 Try.f29 [] [] k =
  (k (.bool true) ([])) := by kernel_rfl
def S.told13  : Bool :=
  (true)
theorem S.told13_v {R : Type}  (k : AVal → List Blk → Option R) : fnEval tis F29 0 G35 Try.f29 [] [] k = k (.bool (S.told13)) [] :=
  (S.told13_k k).trans rfl
def H29 : Hnd := fun R args σ k => match args, σ with
  | [], [] => k (.bool (S.told13)) []
  | _, _ => none
theorem H29_ok : HndOk Try.prog 29 H29 := hnd_ok tis tisOk mixOk G35_ok F29 Try.func29 rfl (by
  intro R args σ k r h
  unfold H29 at h
  split at h
  · exact ⟨0, (S.told13_v _).trans h⟩
  · cases h)
def G29 : Env := Env.add 29 H29 G35
theorem G29_ok : EnvOk Try.prog G29 := envAdd_ok H29_ok G35_ok
end Go.Proofs.Ytdcfjndlmmldpaa.AB
