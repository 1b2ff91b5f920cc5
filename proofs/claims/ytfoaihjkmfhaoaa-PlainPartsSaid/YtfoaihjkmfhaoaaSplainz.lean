/- The functions of layer 6, shut. -/
import Derived.Test.YtfoaihjkmfhaoaaSplain
namespace Go.Proofs.Ytfoaihjkmfhaoaa.AB
set_option linter.unusedVariables false
noncomputable def Z_pnewest : {f : ∀ (fu : Nat) (l : RL) (lo len : Nat) (ro : Bool), Option (Int × RL) // f = fun (fu : Nat) (l : RL) (lo len : Nat) (ro : Bool) => S.pnewest fu l lo len ro} := Classical.choice ⟨⟨_, rfl⟩⟩
noncomputable def S.q_pnewest (fu : Nat) (l : RL) (lo len : Nat) (ro : Bool) : Option (Int × RL) := Z_pnewest.1 fu l lo len ro
theorem S.q_pnewest_eq (fu : Nat) (l : RL) (lo len : Nat) (ro : Bool) : S.q_pnewest fu l lo len ro = S.pnewest fu l lo len ro := by unfold S.q_pnewest; rw [Z_pnewest.2]
theorem S.q_pnewest_v {R : Type} (fu : Nat) (l : RL) (lo len : Nat) (ro : Bool) (k : AVal → List Blk → Option R) : fnEval tis F19 fu G23 Try.f19 [.slice 2 0 lo len none] [.rows (.pair (.int .i64) (.int .i64)) l ro] k = oK (fun v : Int × RL => k (.int .i64 v.1) [(.rows (Cd.pair (Cd.int .i64) (Cd.int .i64)) v.2 ro)]) (S.q_pnewest fu l lo len ro) :=
  (S.pnewest_v fu l lo len ro k).trans (by rw [S.q_pnewest_eq])
noncomputable def Z_pnewest1 : {f : ∀ (fu : Nat), Option (Int) // f = fun (fu : Nat) => S.pnewest1 fu} := Classical.choice ⟨⟨_, rfl⟩⟩
noncomputable def S.q_pnewest1 (fu : Nat) : Option (Int) := Z_pnewest1.1 fu
theorem S.q_pnewest1_eq (fu : Nat) : S.q_pnewest1 fu = S.pnewest1 fu := by unfold S.q_pnewest1; rw [Z_pnewest1.2]
theorem S.q_pnewest1_v {R : Type} (fu : Nat)  (k : AVal → List Blk → Option R) : fnEval tis F19 fu G23 Try.f19 [.nils] [] k = oK (fun v : Int => k (.int .i64 v) []) (S.q_pnewest1 fu ) :=
  (S.pnewest1_v fu k).trans (by rw [S.q_pnewest1_eq])
noncomputable def H19s : Hnd := fun R args σ k => match args, σ with
  | [.slice 2 0 lo len none], [.rows (.pair (.int .i64) (.int .i64)) l ro] => oK (fun v : Int × RL => k (.int .i64 v.1) [(.rows (Cd.pair (Cd.int .i64) (Cd.int .i64)) v.2 ro)]) (S.q_pnewest 100000 l lo len ro)
  | [.nils], [] => oK (fun v : Int => k (.int .i64 v) []) (S.q_pnewest1 100000)
  | _, _ => none
theorem H19s_ok : HndOk Try.prog 19 H19s := hnd_ok tis tisOk mixOk G23_ok F19 Try.func19 rfl (by
  intro R args σ k r h
  unfold H19s at h
  split at h
  · rename_i lo len l ro; exact ⟨100000, (S.q_pnewest_v 100000 l lo len ro _).trans h⟩
  · exact ⟨100000, (S.q_pnewest1_v 100000 _).trans h⟩
  · cases h)
noncomputable def G19s : Env := Env.add 19 H19s G16
theorem G19s_ok : EnvOk Try.prog G19s := envAdd_ok H19s_ok G16_ok
noncomputable def Z_psteady : {f : ∀ (fu : Nat) (l : RL) (lo len : Nat) (ro : Bool) (v : Int), Option (Bool × RL) // f = fun (fu : Nat) (l : RL) (lo len : Nat) (ro : Bool) (v : Int) => S.psteady fu l lo len ro v} := Classical.choice ⟨⟨_, rfl⟩⟩
noncomputable def S.q_psteady (fu : Nat) (l : RL) (lo len : Nat) (ro : Bool) (v : Int) : Option (Bool × RL) := Z_psteady.1 fu l lo len ro v
theorem S.q_psteady_eq (fu : Nat) (l : RL) (lo len : Nat) (ro : Bool) (v : Int) : S.q_psteady fu l lo len ro v = S.psteady fu l lo len ro v := by unfold S.q_psteady; rw [Z_psteady.2]
theorem S.q_psteady_v {R : Type} (fu : Nat) (l : RL) (lo len : Nat) (ro : Bool) (v : Int) (k : AVal → List Blk → Option R) : fnEval tis F21 fu G19 Try.f21 [.slice 2 0 lo len none, .int .i64 v] [.rows (.pair (.int .i64) (.int .i64)) l ro] k = oK (fun v : Bool × RL => k (.bool v.1) [(.rows (Cd.pair (Cd.int .i64) (Cd.int .i64)) v.2 ro)]) (S.q_psteady fu l lo len ro v) :=
  (S.psteady_v fu l lo len ro v k).trans (by rw [S.q_psteady_eq])
noncomputable def Z_psteady1 : {f : ∀ (fu : Nat) (v : Int), Option (Bool) // f = fun (fu : Nat) (v : Int) => S.psteady1 fu v} := Classical.choice ⟨⟨_, rfl⟩⟩
noncomputable def S.q_psteady1 (fu : Nat) (v : Int) : Option (Bool) := Z_psteady1.1 fu v
theorem S.q_psteady1_eq (fu : Nat) (v : Int) : S.q_psteady1 fu v = S.psteady1 fu v := by unfold S.q_psteady1; rw [Z_psteady1.2]
theorem S.q_psteady1_v {R : Type} (fu : Nat) (v : Int) (k : AVal → List Blk → Option R) : fnEval tis F21 fu G19 Try.f21 [.nils, .int .i64 v] [] k = oK (fun v : Bool => k (.bool v) []) (S.q_psteady1 fu v) :=
  (S.psteady1_v fu v k).trans (by rw [S.q_psteady1_eq])
noncomputable def H21s : Hnd := fun R args σ k => match args, σ with
  | [.slice 2 0 lo len none, .int .i64 v], [.rows (.pair (.int .i64) (.int .i64)) l ro] => oK (fun v : Bool × RL => k (.bool v.1) [(.rows (Cd.pair (Cd.int .i64) (Cd.int .i64)) v.2 ro)]) (S.q_psteady 100000 l lo len ro v)
  | [.nils, .int .i64 v], [] => oK (fun v : Bool => k (.bool v) []) (S.q_psteady1 100000 v)
  | _, _ => none
theorem H21s_ok : HndOk Try.prog 21 H21s := hnd_ok tis tisOk mixOk G19_ok F21 Try.func21 rfl (by
  intro R args σ k r h
  unfold H21s at h
  split at h
  · rename_i lo len v l ro; exact ⟨100000, (S.q_psteady_v 100000 l lo len ro v _).trans h⟩
  · rename_i v; exact ⟨100000, (S.q_psteady1_v 100000 v _).trans h⟩
  · cases h)
noncomputable def G21s : Env := Env.add 21 H21s G19s
theorem G21s_ok : EnvOk Try.prog G21s := envAdd_ok H21s_ok G19s_ok
noncomputable def Z_psum : {f : ∀ (fu : Nat) (l : RL) (lo len : Nat) (ro : Bool) (w g t : Int), Option (Int × Int × RL) // f = fun (fu : Nat) (l : RL) (lo len : Nat) (ro : Bool) (w g t : Int) => S.psum fu l lo len ro w g t} := Classical.choice ⟨⟨_, rfl⟩⟩
noncomputable def S.q_psum (fu : Nat) (l : RL) (lo len : Nat) (ro : Bool) (w g t : Int) : Option (Int × Int × RL) := Z_psum.1 fu l lo len ro w g t
theorem S.q_psum_eq (fu : Nat) (l : RL) (lo len : Nat) (ro : Bool) (w g t : Int) : S.q_psum fu l lo len ro w g t = S.psum fu l lo len ro w g t := by unfold S.q_psum; rw [Z_psum.2]
theorem S.q_psum_v {R : Type} (fu : Nat) (l : RL) (lo len : Nat) (ro : Bool) (w g t : Int) (k : AVal → List Blk → Option R) : fnEval tis F15 fu G21 Try.f15 [.slice 2 0 lo len none, .int .i64 w, .int .i64 g, .int .i64 t] [.rows (.pair (.int .i64) (.int .i64)) l ro] k = oK (fun v : Int × Int × RL => k (.tuple [(.int .i64 v.1), (.int .i64 v.2.1)]) [(.rows (Cd.pair (Cd.int .i64) (Cd.int .i64)) v.2.2 ro)]) (S.q_psum fu l lo len ro w g t) :=
  (S.psum_v fu l lo len ro w g t k).trans (by rw [S.q_psum_eq])
noncomputable def Z_psum1 : {f : ∀ (fu : Nat) (w g t : Int), Option (Int × Int) // f = fun (fu : Nat) (w g t : Int) => S.psum1 fu w g t} := Classical.choice ⟨⟨_, rfl⟩⟩
noncomputable def S.q_psum1 (fu : Nat) (w g t : Int) : Option (Int × Int) := Z_psum1.1 fu w g t
theorem S.q_psum1_eq (fu : Nat) (w g t : Int) : S.q_psum1 fu w g t = S.psum1 fu w g t := by unfold S.q_psum1; rw [Z_psum1.2]
theorem S.q_psum1_v {R : Type} (fu : Nat) (w g t : Int) (k : AVal → List Blk → Option R) : fnEval tis F15 fu G21 Try.f15 [.nils, .int .i64 w, .int .i64 g, .int .i64 t] [] k = oK (fun v : Int × Int => k (.tuple [(.int .i64 v.1), (.int .i64 v.2)]) []) (S.q_psum1 fu w g t) :=
  (S.psum1_v fu w g t k).trans (by rw [S.q_psum1_eq])
noncomputable def H15s : Hnd := fun R args σ k => match args, σ with
  | [.slice 2 0 lo len none, .int .i64 w, .int .i64 g, .int .i64 t], [.rows (.pair (.int .i64) (.int .i64)) l ro] => oK (fun v : Int × Int × RL => k (.tuple [(.int .i64 v.1), (.int .i64 v.2.1)]) [(.rows (Cd.pair (Cd.int .i64) (Cd.int .i64)) v.2.2 ro)]) (S.q_psum 100000 l lo len ro w g t)
  | [.nils, .int .i64 w, .int .i64 g, .int .i64 t], [] => oK (fun v : Int × Int => k (.tuple [(.int .i64 v.1), (.int .i64 v.2)]) []) (S.q_psum1 100000 w g t)
  | _, _ => none
theorem H15s_ok : HndOk Try.prog 15 H15s := hnd_ok tis tisOk mixOk G21_ok F15 Try.func15 rfl (by
  intro R args σ k r h
  unfold H15s at h
  split at h
  · rename_i lo len w g t l ro; exact ⟨100000, (S.q_psum_v 100000 l lo len ro w g t _).trans h⟩
  · rename_i w g t; exact ⟨100000, (S.q_psum1_v 100000 w g t _).trans h⟩
  · cases h)
noncomputable def G15s : Env := Env.add 15 H15s G21s
theorem G15s_ok : EnvOk Try.prog G15s := envAdd_ok H15s_ok G21s_ok
noncomputable def Z_pmean : {f : ∀ (l : RL) (lo len : Nat) (ro : Bool) (w g t : Int), Option (Int × List (Int × Int)) // f = fun (l : RL) (lo len : Nat) (ro : Bool) (w g t : Int) => S.pmean l lo len ro w g t} := Classical.choice ⟨⟨_, rfl⟩⟩
noncomputable def S.q_pmean (l : RL) (lo len : Nat) (ro : Bool) (w g t : Int) : Option (Int × List (Int × Int)) := Z_pmean.1 l lo len ro w g t
theorem S.q_pmean_eq (l : RL) (lo len : Nat) (ro : Bool) (w g t : Int) : S.q_pmean l lo len ro w g t = S.pmean l lo len ro w g t := by unfold S.q_pmean; rw [Z_pmean.2]
theorem S.q_pmean_v {R : Type} (l : RL) (lo len : Nat) (ro : Bool) (w g t : Int) (k : AVal → List Blk → Option R) : fnEval tis F18 0 G15 Try.f18 [.slice 2 0 lo len none, .int .i64 w, .int .i64 g, .int .i64 t] [.rows (.pair (.int .i64) (.int .i64)) l ro] k = oK (fun v : Int × List (Int × Int) => k (.int .i64 v.1) [(.rows (Cd.pair (Cd.int .i64) (Cd.int .i64)) v.2 ro)]) (S.q_pmean l lo len ro w g t) :=
  (S.pmean_v l lo len ro w g t k).trans (by rw [S.q_pmean_eq])
noncomputable def H18s : Hnd := fun R args σ k => match args, σ with
  | [.slice 2 0 lo len none, .int .i64 w, .int .i64 g, .int .i64 t], [.rows (.pair (.int .i64) (.int .i64)) l ro] => oK (fun v : Int × List (Int × Int) => k (.int .i64 v.1) [(.rows (Cd.pair (Cd.int .i64) (Cd.int .i64)) v.2 ro)]) (S.q_pmean l lo len ro w g t)
  | _, _ => none
theorem H18s_ok : HndOk Try.prog 18 H18s := hnd_ok tis tisOk mixOk G15_ok F18 Try.func18 rfl (by
  intro R args σ k r h
  unfold H18s at h
  split at h
  · rename_i lo len w g t l ro; exact ⟨0, (S.q_pmean_v l lo len ro w g t _).trans h⟩
  · cases h)
noncomputable def G18s : Env := Env.add 18 H18s G15s
theorem G18s_ok : EnvOk Try.prog G18s := envAdd_ok H18s_ok G15s_ok
end Go.Proofs.Ytfoaihjkmfhaoaa.AB
