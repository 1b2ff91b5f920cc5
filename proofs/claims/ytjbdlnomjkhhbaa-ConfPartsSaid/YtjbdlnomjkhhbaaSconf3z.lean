/- The functions of layer 3, shut. -/
import Derived.Test.YtjbdlnomjkhhbaaSconf3
namespace Go.Proofs.Ytjbdlnomjkhhbaa.AB
set_option linter.unusedVariables false
noncomputable def Z_wrong : {f : ∀ (c : Cf), ByteArray // f = fun (c : Cf) => S.wrong c} := Classical.choice ⟨⟨_, rfl⟩⟩
noncomputable def S.q_wrong (c : Cf) : ByteArray := Z_wrong.1 c
theorem S.q_wrong_eq (c : Cf) : S.q_wrong c = S.wrong c := by unfold S.q_wrong; rw [Z_wrong.2]
noncomputable def H33s : Hnd := fun R args σ k => match args, σ with
  | [.agg [.int .i64 target_, .int .i64 util_, .int .i64 stable_, .int .i64 panic_, .int .i64 grain_, .int .i64 threshold_, .int .i64 up_, .int .i64 down_, .int .i64 min_, .int .i64 max_, .int .i64 initial_, .int .i64 grace_, .int .i64 delay_, .int .i64 burst_, .int .i64 limit_, .int .i64 queue_, .int .i64 timeout_, .int .i64 ready_, .int .i64 subset_, .int .i64 sample_]], [] => k (.str (S.q_wrong ⟨target_, util_, stable_, panic_, grain_, threshold_, up_, down_, min_, max_, initial_, grace_, delay_, burst_, limit_, queue_, timeout_, ready_, subset_, sample_⟩)) []
  | _, _ => none
theorem H33s_ok : HndOk Try.prog 33 H33s := hnd_ok tis tisOk mixOk G50_ok F33 Try.func33 rfl (by
  intro R args σ k r h
  unfold H33s at h
  split at h
  · rename_i target_ util_ stable_ panic_ grain_ threshold_ up_ down_ min_ max_ initial_ grace_ delay_ burst_ limit_ queue_ timeout_ ready_ subset_ sample_; simp only [S.q_wrong_eq] at h; exact ⟨40, (S.wrong_v ⟨target_, util_, stable_, panic_, grain_, threshold_, up_, down_, min_, max_, initial_, grace_, delay_, burst_, limit_, queue_, timeout_, ready_, subset_, sample_⟩ _).trans h⟩
  · cases h)
noncomputable def G33s : Env := Env.add 33 H33s G32
theorem G33s_ok : EnvOk Try.prog G33s := envAdd_ok H33s_ok G32_ok
noncomputable def Z_may : {f : ∀ (c : Cf), Bool // f = fun (c : Cf) => S.may c} := Classical.choice ⟨⟨_, rfl⟩⟩
noncomputable def S.q_may (c : Cf) : Bool := Z_may.1 c
theorem S.q_may_eq (c : Cf) : S.q_may c = S.may c := by unfold S.q_may; rw [Z_may.2]
noncomputable def H34s : Hnd := fun R args σ k => match args, σ with
  | [.agg [.int .i64 target_, .int .i64 util_, .int .i64 stable_, .int .i64 panic_, .int .i64 grain_, .int .i64 threshold_, .int .i64 up_, .int .i64 down_, .int .i64 min_, .int .i64 max_, .int .i64 initial_, .int .i64 grace_, .int .i64 delay_, .int .i64 burst_, .int .i64 limit_, .int .i64 queue_, .int .i64 timeout_, .int .i64 ready_, .int .i64 subset_, .int .i64 sample_]], [] => k (.bool (S.q_may ⟨target_, util_, stable_, panic_, grain_, threshold_, up_, down_, min_, max_, initial_, grace_, delay_, burst_, limit_, queue_, timeout_, ready_, subset_, sample_⟩)) []
  | _, _ => none
theorem H34s_ok : HndOk Try.prog 34 H34s := hnd_ok tis tisOk mixOk G33_ok F34 Try.func34 rfl (by
  intro R args σ k r h
  unfold H34s at h
  split at h
  · rename_i target_ util_ stable_ panic_ grain_ threshold_ up_ down_ min_ max_ initial_ grace_ delay_ burst_ limit_ queue_ timeout_ ready_ subset_ sample_; simp only [S.q_may_eq] at h; exact ⟨0, (S.may_v ⟨target_, util_, stable_, panic_, grain_, threshold_, up_, down_, min_, max_, initial_, grace_, delay_, burst_, limit_, queue_, timeout_, ready_, subset_, sample_⟩ _).trans h⟩
  · cases h)
noncomputable def G34s : Env := Env.add 34 H34s G33s
theorem G34s_ok : EnvOk Try.prog G34s := envAdd_ok H34s_ok G33s_ok
noncomputable def Z_rwrong : {f : ∀ (c : Cf), ByteArray // f = fun (c : Cf) => S.rwrong c} := Classical.choice ⟨⟨_, rfl⟩⟩
noncomputable def S.q_rwrong (c : Cf) : ByteArray := Z_rwrong.1 c
theorem S.q_rwrong_eq (c : Cf) : S.q_rwrong c = S.rwrong c := by unfold S.q_rwrong; rw [Z_rwrong.2]
noncomputable def H36s : Hnd := fun R args σ k => match args, σ with
  | [.agg [.int .i64 target_, .int .i64 util_, .int .i64 stable_, .int .i64 panic_, .int .i64 grain_, .int .i64 threshold_, .int .i64 up_, .int .i64 down_, .int .i64 min_, .int .i64 max_, .int .i64 initial_, .int .i64 grace_, .int .i64 delay_, .int .i64 burst_, .int .i64 limit_, .int .i64 queue_, .int .i64 timeout_, .int .i64 ready_, .int .i64 subset_, .int .i64 sample_]], [] => k (.str (S.q_rwrong ⟨target_, util_, stable_, panic_, grain_, threshold_, up_, down_, min_, max_, initial_, grace_, delay_, burst_, limit_, queue_, timeout_, ready_, subset_, sample_⟩)) []
  | _, _ => none
theorem H36s_ok : HndOk Try.prog 36 H36s := hnd_ok tis tisOk mixOk G30_ok F36 Try.func36 rfl (by
  intro R args σ k r h
  unfold H36s at h
  split at h
  · rename_i target_ util_ stable_ panic_ grain_ threshold_ up_ down_ min_ max_ initial_ grace_ delay_ burst_ limit_ queue_ timeout_ ready_ subset_ sample_; simp only [S.q_rwrong_eq] at h; exact ⟨40, (S.rwrong_v ⟨target_, util_, stable_, panic_, grain_, threshold_, up_, down_, min_, max_, initial_, grace_, delay_, burst_, limit_, queue_, timeout_, ready_, subset_, sample_⟩ _).trans h⟩
  · cases h)
noncomputable def G36s : Env := Env.add 36 H36s G34s
theorem G36s_ok : EnvOk Try.prog G36s := envAdd_ok H36s_ok G34s_ok
noncomputable def Z_rmay : {f : ∀ (c : Cf), Bool // f = fun (c : Cf) => S.rmay c} := Classical.choice ⟨⟨_, rfl⟩⟩
noncomputable def S.q_rmay (c : Cf) : Bool := Z_rmay.1 c
theorem S.q_rmay_eq (c : Cf) : S.q_rmay c = S.rmay c := by unfold S.q_rmay; rw [Z_rmay.2]
noncomputable def H37s : Hnd := fun R args σ k => match args, σ with
  | [.agg [.int .i64 target_, .int .i64 util_, .int .i64 stable_, .int .i64 panic_, .int .i64 grain_, .int .i64 threshold_, .int .i64 up_, .int .i64 down_, .int .i64 min_, .int .i64 max_, .int .i64 initial_, .int .i64 grace_, .int .i64 delay_, .int .i64 burst_, .int .i64 limit_, .int .i64 queue_, .int .i64 timeout_, .int .i64 ready_, .int .i64 subset_, .int .i64 sample_]], [] => k (.bool (S.q_rmay ⟨target_, util_, stable_, panic_, grain_, threshold_, up_, down_, min_, max_, initial_, grace_, delay_, burst_, limit_, queue_, timeout_, ready_, subset_, sample_⟩)) []
  | _, _ => none
theorem H37s_ok : HndOk Try.prog 37 H37s := hnd_ok tis tisOk mixOk G36_ok F37 Try.func37 rfl (by
  intro R args σ k r h
  unfold H37s at h
  split at h
  · rename_i target_ util_ stable_ panic_ grain_ threshold_ up_ down_ min_ max_ initial_ grace_ delay_ burst_ limit_ queue_ timeout_ ready_ subset_ sample_; simp only [S.q_rmay_eq] at h; exact ⟨0, (S.rmay_v ⟨target_, util_, stable_, panic_, grain_, threshold_, up_, down_, min_, max_, initial_, grace_, delay_, burst_, limit_, queue_, timeout_, ready_, subset_, sample_⟩ _).trans h⟩
  · cases h)
noncomputable def G37s : Env := Env.add 37 H37s G36s
theorem G37s_ok : EnvOk Try.prog G37s := envAdd_ok H37s_ok G36s_ok
noncomputable def Z_per : {f : ∀ (c : Cf), Option (Int) // f = fun (c : Cf) => S.per c} := Classical.choice ⟨⟨_, rfl⟩⟩
noncomputable def S.q_per (c : Cf) : Option (Int) := Z_per.1 c
theorem S.q_per_eq (c : Cf) : S.q_per c = S.per c := by unfold S.q_per; rw [Z_per.2]
noncomputable def H35s : Hnd := fun R args σ k => match args, σ with
  | [.agg [.int .i64 target_, .int .i64 util_, .int .i64 stable_, .int .i64 panic_, .int .i64 grain_, .int .i64 threshold_, .int .i64 up_, .int .i64 down_, .int .i64 min_, .int .i64 max_, .int .i64 initial_, .int .i64 grace_, .int .i64 delay_, .int .i64 burst_, .int .i64 limit_, .int .i64 queue_, .int .i64 timeout_, .int .i64 ready_, .int .i64 subset_, .int .i64 sample_]], [] => oK (fun v : Int => k (.int .i64 v) []) (S.q_per ⟨target_, util_, stable_, panic_, grain_, threshold_, up_, down_, min_, max_, initial_, grace_, delay_, burst_, limit_, queue_, timeout_, ready_, subset_, sample_⟩)
  | _, _ => none
theorem H35s_ok : HndOk Try.prog 35 H35s := hnd_ok tis tisOk mixOk G29_ok F35 Try.func35 rfl (by
  intro R args σ k r h
  unfold H35s at h
  split at h
  · rename_i target_ util_ stable_ panic_ grain_ threshold_ up_ down_ min_ max_ initial_ grace_ delay_ burst_ limit_ queue_ timeout_ ready_ subset_ sample_; simp only [S.q_per_eq] at h; exact ⟨0, (S.per_v ⟨target_, util_, stable_, panic_, grain_, threshold_, up_, down_, min_, max_, initial_, grace_, delay_, burst_, limit_, queue_, timeout_, ready_, subset_, sample_⟩ _).trans h⟩
  · cases h)
noncomputable def G35s : Env := Env.add 35 H35s G37s
theorem G35s_ok : EnvOk Try.prog G35s := envAdd_ok H35s_ok G37s_ok
noncomputable def Z_rper : {f : ∀ (c : Cf), Int // f = fun (c : Cf) => S.rper c} := Classical.choice ⟨⟨_, rfl⟩⟩
noncomputable def S.q_rper (c : Cf) : Int := Z_rper.1 c
theorem S.q_rper_eq (c : Cf) : S.q_rper c = S.rper c := by unfold S.q_rper; rw [Z_rper.2]
noncomputable def H38s : Hnd := fun R args σ k => match args, σ with
  | [.agg [.int .i64 target_, .int .i64 util_, .int .i64 stable_, .int .i64 panic_, .int .i64 grain_, .int .i64 threshold_, .int .i64 up_, .int .i64 down_, .int .i64 min_, .int .i64 max_, .int .i64 initial_, .int .i64 grace_, .int .i64 delay_, .int .i64 burst_, .int .i64 limit_, .int .i64 queue_, .int .i64 timeout_, .int .i64 ready_, .int .i64 subset_, .int .i64 sample_]], [] => k (.int .i64 (S.q_rper ⟨target_, util_, stable_, panic_, grain_, threshold_, up_, down_, min_, max_, initial_, grace_, delay_, burst_, limit_, queue_, timeout_, ready_, subset_, sample_⟩)) []
  | _, _ => none
theorem H38s_ok : HndOk Try.prog 38 H38s := hnd_ok tis tisOk mixOk G39_ok F38 Try.func38 rfl (by
  intro R args σ k r h
  unfold H38s at h
  split at h
  · rename_i target_ util_ stable_ panic_ grain_ threshold_ up_ down_ min_ max_ initial_ grace_ delay_ burst_ limit_ queue_ timeout_ ready_ subset_ sample_; simp only [S.q_rper_eq] at h; exact ⟨0, (S.rper_v ⟨target_, util_, stable_, panic_, grain_, threshold_, up_, down_, min_, max_, initial_, grace_, delay_, burst_, limit_, queue_, timeout_, ready_, subset_, sample_⟩ _).trans h⟩
  · cases h)
noncomputable def G38s : Env := Env.add 38 H38s G35s
theorem G38s_ok : EnvOk Try.prog G38s := envAdd_ok H38s_ok G35s_ok
end Go.Proofs.Ytjbdlnomjkhhbaa.AB
