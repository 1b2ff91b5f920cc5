/- The functions of layer 13, shut. -/
import Derived.Test.YtdcfjndlmmldpaaSrate
import Derived.Test.YtdcfjndlmmldpaaFwZ
namespace Go.Proofs.Ytdcfjndlmmldpaa.AB
set_option linter.unusedVariables false
noncomputable def Z_rmay : {f : ∀ (c : Cf), Bool // f = fun (c : Cf) => S.rmay c} := Classical.choice ⟨⟨_, rfl⟩⟩
noncomputable def S.q_rmay (c : Cf) : Bool := Z_rmay.1 c
theorem S.q_rmay_eq (c : Cf) : S.q_rmay c = S.rmay c := by unfold S.q_rmay; rw [Z_rmay.2]
noncomputable def H23s : Hnd := fun R args σ k => match args, σ with
  | [.agg [.int .i64 target_, .int .i64 util_, .int .i64 stable_, .int .i64 panic_, .int .i64 grain_, .int .i64 threshold_, .int .i64 up_, .int .i64 down_, .int .i64 min_, .int .i64 max_, .int .i64 initial_, .int .i64 grace_, .int .i64 delay_, .int .i64 burst_, .int .i64 limit_, .int .i64 queue_, .int .i64 timeout_, .int .i64 ready_, .int .i64 subset_, .int .i64 sample_]], [] => k (.bool (S.q_rmay ⟨target_, util_, stable_, panic_, grain_, threshold_, up_, down_, min_, max_, initial_, grace_, delay_, burst_, limit_, queue_, timeout_, ready_, subset_, sample_⟩)) []
  | _, _ => none
theorem H23s_ok : HndOk Try.prog 23 H23s := hnd_ok tis tisOk mixOk G38_ok F23 Try.func23 rfl (by
  intro R args σ k r h
  unfold H23s at h
  split at h
  · rename_i target_ util_ stable_ panic_ grain_ threshold_ up_ down_ min_ max_ initial_ grace_ delay_ burst_ limit_ queue_ timeout_ ready_ subset_ sample_; simp only [S.q_rmay_eq] at h; exact ⟨0, (S.rmay_v ⟨target_, util_, stable_, panic_, grain_, threshold_, up_, down_, min_, max_, initial_, grace_, delay_, burst_, limit_, queue_, timeout_, ready_, subset_, sample_⟩ _).trans h⟩
  · cases h)
noncomputable def G23s : Env := Env.add 23 H23s G29
theorem G23s_ok : EnvOk Try.prog G23s := envAdd_ok H23s_ok G29_ok
noncomputable def Z_most : {f : ∀ (c : Cf) (r : Int), Option (Int) // f = fun (c : Cf) (r : Int) => S.most c r} := Classical.choice ⟨⟨_, rfl⟩⟩
noncomputable def S.q_most (c : Cf) (r : Int) : Option (Int) := Z_most.1 c r
theorem S.q_most_eq (c : Cf) (r : Int) : S.q_most c r = S.most c r := by unfold S.q_most; rw [Z_most.2]
noncomputable def H31s : Hnd := fun R args σ k => match args, σ with
  | [.agg [.int .i64 target_, .int .i64 util_, .int .i64 stable_, .int .i64 panic_, .int .i64 grain_, .int .i64 threshold_, .int .i64 up_, .int .i64 down_, .int .i64 min_, .int .i64 max_, .int .i64 initial_, .int .i64 grace_, .int .i64 delay_, .int .i64 burst_, .int .i64 limit_, .int .i64 queue_, .int .i64 timeout_, .int .i64 ready_, .int .i64 subset_, .int .i64 sample_], .int .i64 r], [] => oK (fun v : Int => k (.int .i64 v) []) (S.q_most ⟨target_, util_, stable_, panic_, grain_, threshold_, up_, down_, min_, max_, initial_, grace_, delay_, burst_, limit_, queue_, timeout_, ready_, subset_, sample_⟩ r)
  | _, _ => none
theorem H31s_ok : HndOk Try.prog 31 H31s := hnd_ok tis tisOk mixOk G44_ok F31 Try.func31 rfl (by
  intro R args σ k r h
  unfold H31s at h
  split at h
  · rename_i target_ util_ stable_ panic_ grain_ threshold_ up_ down_ min_ max_ initial_ grace_ delay_ burst_ limit_ queue_ timeout_ ready_ subset_ sample_ r; simp only [S.q_most_eq] at h; exact ⟨0, (S.most_v ⟨target_, util_, stable_, panic_, grain_, threshold_, up_, down_, min_, max_, initial_, grace_, delay_, burst_, limit_, queue_, timeout_, ready_, subset_, sample_⟩ r _).trans h⟩
  · cases h)
noncomputable def G31s : Env := Env.add 31 H31s G23s
theorem G31s_ok : EnvOk Try.prog G31s := envAdd_ok H31s_ok G23s_ok
noncomputable def Z_least : {f : ∀ (c : Cf) (r : Int), Option (Int) // f = fun (c : Cf) (r : Int) => S.least c r} := Classical.choice ⟨⟨_, rfl⟩⟩
noncomputable def S.q_least (c : Cf) (r : Int) : Option (Int) := Z_least.1 c r
theorem S.q_least_eq (c : Cf) (r : Int) : S.q_least c r = S.least c r := by unfold S.q_least; rw [Z_least.2]
noncomputable def H30s : Hnd := fun R args σ k => match args, σ with
  | [.agg [.int .i64 target_, .int .i64 util_, .int .i64 stable_, .int .i64 panic_, .int .i64 grain_, .int .i64 threshold_, .int .i64 up_, .int .i64 down_, .int .i64 min_, .int .i64 max_, .int .i64 initial_, .int .i64 grace_, .int .i64 delay_, .int .i64 burst_, .int .i64 limit_, .int .i64 queue_, .int .i64 timeout_, .int .i64 ready_, .int .i64 subset_, .int .i64 sample_], .int .i64 r], [] => oK (fun v : Int => k (.int .i64 v) []) (S.q_least ⟨target_, util_, stable_, panic_, grain_, threshold_, up_, down_, min_, max_, initial_, grace_, delay_, burst_, limit_, queue_, timeout_, ready_, subset_, sample_⟩ r)
  | _, _ => none
theorem H30s_ok : HndOk Try.prog 30 H30s := hnd_ok tis tisOk mixOk G31_ok F30 Try.func30 rfl (by
  intro R args σ k r h
  unfold H30s at h
  split at h
  · rename_i target_ util_ stable_ panic_ grain_ threshold_ up_ down_ min_ max_ initial_ grace_ delay_ burst_ limit_ queue_ timeout_ ready_ subset_ sample_ r; simp only [S.q_least_eq] at h; exact ⟨0, (S.least_v ⟨target_, util_, stable_, panic_, grain_, threshold_, up_, down_, min_, max_, initial_, grace_, delay_, burst_, limit_, queue_, timeout_, ready_, subset_, sample_⟩ r _).trans h⟩
  · cases h)
noncomputable def G30s : Env := Env.add 30 H30s G31s
theorem G30s_ok : EnvOk Try.prog G30s := envAdd_ok H30s_ok G31s_ok
noncomputable def Z_limit : {f : ∀ (c : Cf) (w r : Int), Option (Int) // f = fun (c : Cf) (w r : Int) => S.limit c w r} := Classical.choice ⟨⟨_, rfl⟩⟩
noncomputable def S.q_limit (c : Cf) (w r : Int) : Option (Int) := Z_limit.1 c w r
theorem S.q_limit_eq (c : Cf) (w r : Int) : S.q_limit c w r = S.limit c w r := by unfold S.q_limit; rw [Z_limit.2]
noncomputable def H32s : Hnd := fun R args σ k => match args, σ with
  | [.agg [.int .i64 target_, .int .i64 util_, .int .i64 stable_, .int .i64 panic_, .int .i64 grain_, .int .i64 threshold_, .int .i64 up_, .int .i64 down_, .int .i64 min_, .int .i64 max_, .int .i64 initial_, .int .i64 grace_, .int .i64 delay_, .int .i64 burst_, .int .i64 limit_, .int .i64 queue_, .int .i64 timeout_, .int .i64 ready_, .int .i64 subset_, .int .i64 sample_], .int .i64 w, .int .i64 r], [] => oK (fun v : Int => k (.int .i64 v) []) (S.q_limit ⟨target_, util_, stable_, panic_, grain_, threshold_, up_, down_, min_, max_, initial_, grace_, delay_, burst_, limit_, queue_, timeout_, ready_, subset_, sample_⟩ w r)
  | _, _ => none
theorem H32s_ok : HndOk Try.prog 32 H32s := hnd_ok tis tisOk mixOk G30_ok F32 Try.func32 rfl (by
  intro R args σ k r h
  unfold H32s at h
  split at h
  · rename_i target_ util_ stable_ panic_ grain_ threshold_ up_ down_ min_ max_ initial_ grace_ delay_ burst_ limit_ queue_ timeout_ ready_ subset_ sample_ w r; simp only [S.q_limit_eq] at h; exact ⟨0, (S.limit_v ⟨target_, util_, stable_, panic_, grain_, threshold_, up_, down_, min_, max_, initial_, grace_, delay_, burst_, limit_, queue_, timeout_, ready_, subset_, sample_⟩ w r _).trans h⟩
  · cases h)
noncomputable def G32s : Env := Env.add 32 H32s G30s
theorem G32s_ok : EnvOk Try.prog G32s := envAdd_ok H32s_ok G30s_ok
noncomputable def Z_rmost : {f : ∀ (c : Cf) (r : Int), Option (Int) // f = fun (c : Cf) (r : Int) => S.rmost c r} := Classical.choice ⟨⟨_, rfl⟩⟩
noncomputable def S.q_rmost (c : Cf) (r : Int) : Option (Int) := Z_rmost.1 c r
theorem S.q_rmost_eq (c : Cf) (r : Int) : S.q_rmost c r = S.rmost c r := by unfold S.q_rmost; rw [Z_rmost.2]
noncomputable def H33s : Hnd := fun R args σ k => match args, σ with
  | [.agg [.int .i64 target_, .int .i64 util_, .int .i64 stable_, .int .i64 panic_, .int .i64 grain_, .int .i64 threshold_, .int .i64 up_, .int .i64 down_, .int .i64 min_, .int .i64 max_, .int .i64 initial_, .int .i64 grace_, .int .i64 delay_, .int .i64 burst_, .int .i64 limit_, .int .i64 queue_, .int .i64 timeout_, .int .i64 ready_, .int .i64 subset_, .int .i64 sample_], .int .i64 r], [] => oK (fun v : Int => k (.int .i64 v) []) (S.q_rmost ⟨target_, util_, stable_, panic_, grain_, threshold_, up_, down_, min_, max_, initial_, grace_, delay_, burst_, limit_, queue_, timeout_, ready_, subset_, sample_⟩ r)
  | _, _ => none
theorem H33s_ok : HndOk Try.prog 33 H33s := hnd_ok tis tisOk mixOk G32_ok F33 Try.func33 rfl (by
  intro R args σ k r h
  unfold H33s at h
  split at h
  · rename_i target_ util_ stable_ panic_ grain_ threshold_ up_ down_ min_ max_ initial_ grace_ delay_ burst_ limit_ queue_ timeout_ ready_ subset_ sample_ r; simp only [S.q_rmost_eq] at h; exact ⟨0, (S.rmost_v ⟨target_, util_, stable_, panic_, grain_, threshold_, up_, down_, min_, max_, initial_, grace_, delay_, burst_, limit_, queue_, timeout_, ready_, subset_, sample_⟩ r _).trans h⟩
  · cases h)
noncomputable def G33s : Env := Env.add 33 H33s G32s
theorem G33s_ok : EnvOk Try.prog G33s := envAdd_ok H33s_ok G32s_ok
noncomputable def Z_rleast : {f : ∀ (c : Cf) (r : Int), Option (Int) // f = fun (c : Cf) (r : Int) => S.rleast c r} := Classical.choice ⟨⟨_, rfl⟩⟩
noncomputable def S.q_rleast (c : Cf) (r : Int) : Option (Int) := Z_rleast.1 c r
theorem S.q_rleast_eq (c : Cf) (r : Int) : S.q_rleast c r = S.rleast c r := by unfold S.q_rleast; rw [Z_rleast.2]
noncomputable def H34s : Hnd := fun R args σ k => match args, σ with
  | [.agg [.int .i64 target_, .int .i64 util_, .int .i64 stable_, .int .i64 panic_, .int .i64 grain_, .int .i64 threshold_, .int .i64 up_, .int .i64 down_, .int .i64 min_, .int .i64 max_, .int .i64 initial_, .int .i64 grace_, .int .i64 delay_, .int .i64 burst_, .int .i64 limit_, .int .i64 queue_, .int .i64 timeout_, .int .i64 ready_, .int .i64 subset_, .int .i64 sample_], .int .i64 r], [] => oK (fun v : Int => k (.int .i64 v) []) (S.q_rleast ⟨target_, util_, stable_, panic_, grain_, threshold_, up_, down_, min_, max_, initial_, grace_, delay_, burst_, limit_, queue_, timeout_, ready_, subset_, sample_⟩ r)
  | _, _ => none
theorem H34s_ok : HndOk Try.prog 34 H34s := hnd_ok tis tisOk mixOk G33_ok F34 Try.func34 rfl (by
  intro R args σ k r h
  unfold H34s at h
  split at h
  · rename_i target_ util_ stable_ panic_ grain_ threshold_ up_ down_ min_ max_ initial_ grace_ delay_ burst_ limit_ queue_ timeout_ ready_ subset_ sample_ r; simp only [S.q_rleast_eq] at h; exact ⟨0, (S.rleast_v ⟨target_, util_, stable_, panic_, grain_, threshold_, up_, down_, min_, max_, initial_, grace_, delay_, burst_, limit_, queue_, timeout_, ready_, subset_, sample_⟩ r _).trans h⟩
  · cases h)
noncomputable def G34s : Env := Env.add 34 H34s G33s
theorem G34s_ok : EnvOk Try.prog G34s := envAdd_ok H34s_ok G33s_ok
noncomputable def Z_rlimit : {f : ∀ (c : Cf) (w r : Int), Option (Int) // f = fun (c : Cf) (w r : Int) => S.rlimit c w r} := Classical.choice ⟨⟨_, rfl⟩⟩
noncomputable def S.q_rlimit (c : Cf) (w r : Int) : Option (Int) := Z_rlimit.1 c w r
theorem S.q_rlimit_eq (c : Cf) (w r : Int) : S.q_rlimit c w r = S.rlimit c w r := by unfold S.q_rlimit; rw [Z_rlimit.2]
noncomputable def H35s : Hnd := fun R args σ k => match args, σ with
  | [.agg [.int .i64 target_, .int .i64 util_, .int .i64 stable_, .int .i64 panic_, .int .i64 grain_, .int .i64 threshold_, .int .i64 up_, .int .i64 down_, .int .i64 min_, .int .i64 max_, .int .i64 initial_, .int .i64 grace_, .int .i64 delay_, .int .i64 burst_, .int .i64 limit_, .int .i64 queue_, .int .i64 timeout_, .int .i64 ready_, .int .i64 subset_, .int .i64 sample_], .int .i64 w, .int .i64 r], [] => oK (fun v : Int => k (.int .i64 v) []) (S.q_rlimit ⟨target_, util_, stable_, panic_, grain_, threshold_, up_, down_, min_, max_, initial_, grace_, delay_, burst_, limit_, queue_, timeout_, ready_, subset_, sample_⟩ w r)
  | _, _ => none
theorem H35s_ok : HndOk Try.prog 35 H35s := hnd_ok tis tisOk mixOk G34_ok F35 Try.func35 rfl (by
  intro R args σ k r h
  unfold H35s at h
  split at h
  · rename_i target_ util_ stable_ panic_ grain_ threshold_ up_ down_ min_ max_ initial_ grace_ delay_ burst_ limit_ queue_ timeout_ ready_ subset_ sample_ w r; simp only [S.q_rlimit_eq] at h; exact ⟨0, (S.rlimit_v ⟨target_, util_, stable_, panic_, grain_, threshold_, up_, down_, min_, max_, initial_, grace_, delay_, burst_, limit_, queue_, timeout_, ready_, subset_, sample_⟩ w r _).trans h⟩
  · cases h)
noncomputable def G35s : Env := Env.add 35 H35s G34s
theorem G35s_ok : EnvOk Try.prog G35s := envAdd_ok H35s_ok G34s_ok
end Go.Proofs.Ytdcfjndlmmldpaa.AB
