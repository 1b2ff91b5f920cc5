/- The functions of layer 12, shut. -/
import Derived.Test.YtdflpflffccmgaaSwant
namespace Go.Proofs.Ytdflpflffccmgaa.AB
set_option linter.unusedVariables false
noncomputable def Z_rmay : {f : ∀ (c : Cf), Bool // f = fun (c : Cf) => S.rmay c} := Classical.choice ⟨⟨_, rfl⟩⟩
noncomputable def S.q_rmay (c : Cf) : Bool := Z_rmay.1 c
theorem S.q_rmay_eq (c : Cf) : S.q_rmay c = S.rmay c := by unfold S.q_rmay; rw [Z_rmay.2]
noncomputable def H28s : Hnd := fun R args σ k => match args, σ with
  | [.agg [.int .i64 target_, .int .i64 util_, .int .i64 stable_, .int .i64 panic_, .int .i64 grain_, .int .i64 threshold_, .int .i64 up_, .int .i64 down_, .int .i64 min_, .int .i64 max_, .int .i64 initial_, .int .i64 grace_, .int .i64 delay_, .int .i64 burst_, .int .i64 limit_, .int .i64 queue_, .int .i64 timeout_, .int .i64 ready_, .int .i64 subset_, .int .i64 sample_]], [] => k (.bool (S.q_rmay ⟨target_, util_, stable_, panic_, grain_, threshold_, up_, down_, min_, max_, initial_, grace_, delay_, burst_, limit_, queue_, timeout_, ready_, subset_, sample_⟩)) []
  | _, _ => none
theorem H28s_ok : HndOk Try.prog 28 H28s := hnd_ok tis tisOk mixOk G47_ok F28 Try.func28 rfl (by
  intro R args σ k r h
  unfold H28s at h
  split at h
  · rename_i target_ util_ stable_ panic_ grain_ threshold_ up_ down_ min_ max_ initial_ grace_ delay_ burst_ limit_ queue_ timeout_ ready_ subset_ sample_; simp only [S.q_rmay_eq] at h; exact ⟨0, (S.rmay_v ⟨target_, util_, stable_, panic_, grain_, threshold_, up_, down_, min_, max_, initial_, grace_, delay_, burst_, limit_, queue_, timeout_, ready_, subset_, sample_⟩ _).trans h⟩
  · cases h)
noncomputable def G28s : Env := Env.add 28 H28s G23
theorem G28s_ok : EnvOk Try.prog G28s := envAdd_ok H28s_ok G23_ok
noncomputable def Z_rper : {f : ∀ (c : Cf), Int // f = fun (c : Cf) => S.rper c} := Classical.choice ⟨⟨_, rfl⟩⟩
noncomputable def S.q_rper (c : Cf) : Int := Z_rper.1 c
theorem S.q_rper_eq (c : Cf) : S.q_rper c = S.rper c := by unfold S.q_rper; rw [Z_rper.2]
noncomputable def H29s : Hnd := fun R args σ k => match args, σ with
  | [.agg [.int .i64 target_, .int .i64 util_, .int .i64 stable_, .int .i64 panic_, .int .i64 grain_, .int .i64 threshold_, .int .i64 up_, .int .i64 down_, .int .i64 min_, .int .i64 max_, .int .i64 initial_, .int .i64 grace_, .int .i64 delay_, .int .i64 burst_, .int .i64 limit_, .int .i64 queue_, .int .i64 timeout_, .int .i64 ready_, .int .i64 subset_, .int .i64 sample_]], [] => k (.int .i64 (S.q_rper ⟨target_, util_, stable_, panic_, grain_, threshold_, up_, down_, min_, max_, initial_, grace_, delay_, burst_, limit_, queue_, timeout_, ready_, subset_, sample_⟩)) []
  | _, _ => none
theorem H29s_ok : HndOk Try.prog 29 H29s := hnd_ok tis tisOk mixOk G26_ok F29 Try.func29 rfl (by
  intro R args σ k r h
  unfold H29s at h
  split at h
  · rename_i target_ util_ stable_ panic_ grain_ threshold_ up_ down_ min_ max_ initial_ grace_ delay_ burst_ limit_ queue_ timeout_ ready_ subset_ sample_; simp only [S.q_rper_eq] at h; exact ⟨0, (S.rper_v ⟨target_, util_, stable_, panic_, grain_, threshold_, up_, down_, min_, max_, initial_, grace_, delay_, burst_, limit_, queue_, timeout_, ready_, subset_, sample_⟩ _).trans h⟩
  · cases h)
noncomputable def G29s : Env := Env.add 29 H29s G28s
theorem G29s_ok : EnvOk Try.prog G29s := envAdd_ok H29s_ok G28s_ok
noncomputable def Z_wof : {f : ∀ (c : Cf) (m : Int), Option (Int) // f = fun (c : Cf) (m : Int) => S.wof c m} := Classical.choice ⟨⟨_, rfl⟩⟩
noncomputable def S.q_wof (c : Cf) (m : Int) : Option (Int) := Z_wof.1 c m
theorem S.q_wof_eq (c : Cf) (m : Int) : S.q_wof c m = S.wof c m := by unfold S.q_wof; rw [Z_wof.2]
noncomputable def H24s : Hnd := fun R args σ k => match args, σ with
  | [.agg [.int .i64 target_, .int .i64 util_, .int .i64 stable_, .int .i64 panic_, .int .i64 grain_, .int .i64 threshold_, .int .i64 up_, .int .i64 down_, .int .i64 min_, .int .i64 max_, .int .i64 initial_, .int .i64 grace_, .int .i64 delay_, .int .i64 burst_, .int .i64 limit_, .int .i64 queue_, .int .i64 timeout_, .int .i64 ready_, .int .i64 subset_, .int .i64 sample_], .int .i64 m], [] => oK (fun v : Int => k (.int .i64 v) []) (S.q_wof ⟨target_, util_, stable_, panic_, grain_, threshold_, up_, down_, min_, max_, initial_, grace_, delay_, burst_, limit_, queue_, timeout_, ready_, subset_, sample_⟩ m)
  | _, _ => none
theorem H24s_ok : HndOk Try.prog 24 H24s := hnd_ok tis tisOk mixOk G43_ok F24 Try.func24 rfl (by
  intro R args σ k r h
  unfold H24s at h
  split at h
  · rename_i target_ util_ stable_ panic_ grain_ threshold_ up_ down_ min_ max_ initial_ grace_ delay_ burst_ limit_ queue_ timeout_ ready_ subset_ sample_ m; simp only [S.q_wof_eq] at h; exact ⟨0, (S.wof_v ⟨target_, util_, stable_, panic_, grain_, threshold_, up_, down_, min_, max_, initial_, grace_, delay_, burst_, limit_, queue_, timeout_, ready_, subset_, sample_⟩ m _).trans h⟩
  · cases h)
noncomputable def G24s : Env := Env.add 24 H24s G29s
theorem G24s_ok : EnvOk Try.prog G24s := envAdd_ok H24s_ok G29s_ok
noncomputable def Z_wover : {f : ∀ (c : Cf) (w r : Int), Bool // f = fun (c : Cf) (w r : Int) => S.wover c w r} := Classical.choice ⟨⟨_, rfl⟩⟩
noncomputable def S.q_wover (c : Cf) (w r : Int) : Bool := Z_wover.1 c w r
theorem S.q_wover_eq (c : Cf) (w r : Int) : S.q_wover c w r = S.wover c w r := by unfold S.q_wover; rw [Z_wover.2]
noncomputable def H26s : Hnd := fun R args σ k => match args, σ with
  | [.agg [.int .i64 target_, .int .i64 util_, .int .i64 stable_, .int .i64 panic_, .int .i64 grain_, .int .i64 threshold_, .int .i64 up_, .int .i64 down_, .int .i64 min_, .int .i64 max_, .int .i64 initial_, .int .i64 grace_, .int .i64 delay_, .int .i64 burst_, .int .i64 limit_, .int .i64 queue_, .int .i64 timeout_, .int .i64 ready_, .int .i64 subset_, .int .i64 sample_], .int .i64 w, .int .i64 r], [] => k (.bool (S.q_wover ⟨target_, util_, stable_, panic_, grain_, threshold_, up_, down_, min_, max_, initial_, grace_, delay_, burst_, limit_, queue_, timeout_, ready_, subset_, sample_⟩ w r)) []
  | _, _ => none
theorem H26s_ok : HndOk Try.prog 26 H26s := hnd_ok tis tisOk mixOk G24_ok F26 Try.func26 rfl (by
  intro R args σ k r h
  unfold H26s at h
  split at h
  · rename_i target_ util_ stable_ panic_ grain_ threshold_ up_ down_ min_ max_ initial_ grace_ delay_ burst_ limit_ queue_ timeout_ ready_ subset_ sample_ w r; simp only [S.q_wover_eq] at h; exact ⟨0, (S.wover_v ⟨target_, util_, stable_, panic_, grain_, threshold_, up_, down_, min_, max_, initial_, grace_, delay_, burst_, limit_, queue_, timeout_, ready_, subset_, sample_⟩ w r _).trans h⟩
  · cases h)
noncomputable def G26s : Env := Env.add 26 H26s G24s
theorem G26s_ok : EnvOk Try.prog G26s := envAdd_ok H26s_ok G24s_ok
noncomputable def Z_rof : {f : ∀ (c : Cf) (m : Int), Option (Int) // f = fun (c : Cf) (m : Int) => S.rof c m} := Classical.choice ⟨⟨_, rfl⟩⟩
noncomputable def S.q_rof (c : Cf) (m : Int) : Option (Int) := Z_rof.1 c m
theorem S.q_rof_eq (c : Cf) (m : Int) : S.q_rof c m = S.rof c m := by unfold S.q_rof; rw [Z_rof.2]
noncomputable def H25s : Hnd := fun R args σ k => match args, σ with
  | [.agg [.int .i64 target_, .int .i64 util_, .int .i64 stable_, .int .i64 panic_, .int .i64 grain_, .int .i64 threshold_, .int .i64 up_, .int .i64 down_, .int .i64 min_, .int .i64 max_, .int .i64 initial_, .int .i64 grace_, .int .i64 delay_, .int .i64 burst_, .int .i64 limit_, .int .i64 queue_, .int .i64 timeout_, .int .i64 ready_, .int .i64 subset_, .int .i64 sample_], .int .i64 m], [] => oK (fun v : Int => k (.int .i64 v) []) (S.q_rof ⟨target_, util_, stable_, panic_, grain_, threshold_, up_, down_, min_, max_, initial_, grace_, delay_, burst_, limit_, queue_, timeout_, ready_, subset_, sample_⟩ m)
  | _, _ => none
theorem H25s_ok : HndOk Try.prog 25 H25s := hnd_ok tis tisOk mixOk G29_ok F25 Try.func25 rfl (by
  intro R args σ k r h
  unfold H25s at h
  split at h
  · rename_i target_ util_ stable_ panic_ grain_ threshold_ up_ down_ min_ max_ initial_ grace_ delay_ burst_ limit_ queue_ timeout_ ready_ subset_ sample_ m; simp only [S.q_rof_eq] at h; exact ⟨0, (S.rof_v ⟨target_, util_, stable_, panic_, grain_, threshold_, up_, down_, min_, max_, initial_, grace_, delay_, burst_, limit_, queue_, timeout_, ready_, subset_, sample_⟩ m _).trans h⟩
  · cases h)
noncomputable def G25s : Env := Env.add 25 H25s G26s
theorem G25s_ok : EnvOk Try.prog G25s := envAdd_ok H25s_ok G26s_ok
noncomputable def Z_rover : {f : ∀ (c : Cf) (w r : Int), Bool // f = fun (c : Cf) (w r : Int) => S.rover c w r} := Classical.choice ⟨⟨_, rfl⟩⟩
noncomputable def S.q_rover (c : Cf) (w r : Int) : Bool := Z_rover.1 c w r
theorem S.q_rover_eq (c : Cf) (w r : Int) : S.q_rover c w r = S.rover c w r := by unfold S.q_rover; rw [Z_rover.2]
noncomputable def H27s : Hnd := fun R args σ k => match args, σ with
  | [.agg [.int .i64 target_, .int .i64 util_, .int .i64 stable_, .int .i64 panic_, .int .i64 grain_, .int .i64 threshold_, .int .i64 up_, .int .i64 down_, .int .i64 min_, .int .i64 max_, .int .i64 initial_, .int .i64 grace_, .int .i64 delay_, .int .i64 burst_, .int .i64 limit_, .int .i64 queue_, .int .i64 timeout_, .int .i64 ready_, .int .i64 subset_, .int .i64 sample_], .int .i64 w, .int .i64 r], [] => k (.bool (S.q_rover ⟨target_, util_, stable_, panic_, grain_, threshold_, up_, down_, min_, max_, initial_, grace_, delay_, burst_, limit_, queue_, timeout_, ready_, subset_, sample_⟩ w r)) []
  | _, _ => none
theorem H27s_ok : HndOk Try.prog 27 H27s := hnd_ok tis tisOk mixOk G46_ok F27 Try.func27 rfl (by
  intro R args σ k r h
  unfold H27s at h
  split at h
  · rename_i target_ util_ stable_ panic_ grain_ threshold_ up_ down_ min_ max_ initial_ grace_ delay_ burst_ limit_ queue_ timeout_ ready_ subset_ sample_ w r; simp only [S.q_rover_eq] at h; exact ⟨0, (S.rover_v ⟨target_, util_, stable_, panic_, grain_, threshold_, up_, down_, min_, max_, initial_, grace_, delay_, burst_, limit_, queue_, timeout_, ready_, subset_, sample_⟩ w r _).trans h⟩
  · cases h)
noncomputable def G27s : Env := Env.add 27 H27s G25s
theorem G27s_ok : EnvOk Try.prog G27s := envAdd_ok H27s_ok G25s_ok
end Go.Proofs.Ytdflpflffccmgaa.AB
