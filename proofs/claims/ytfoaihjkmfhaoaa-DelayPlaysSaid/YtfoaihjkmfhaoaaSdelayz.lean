/- The functions of layer 15, shut. -/
import Derived.Test.YtfoaihjkmfhaoaaSrdelay
namespace Go.Proofs.Ytfoaihjkmfhaoaa.AB
set_option linter.unusedVariables false
noncomputable def Z_dput : {f : ∀ (l : WL) (lo len : Nat) (sp la t w : Int), Option ((Nat × Nat × Int × Int × WL) ⊕ (Nat × Int × Int × List (Option (Int × Int)))) // f = fun (l : WL) (lo len : Nat) (sp la t w : Int) => S.dput l lo len sp la t w} := Classical.choice ⟨⟨_, rfl⟩⟩
noncomputable def S.q_dput (l : WL) (lo len : Nat) (sp la t w : Int) : Option ((Nat × Nat × Int × Int × WL) ⊕ (Nat × Int × Int × List (Option (Int × Int)))) := Z_dput.1 l lo len sp la t w
theorem S.q_dput_eq (l : WL) (lo len : Nat) (sp la t w : Int) : S.q_dput l lo len sp la t w = S.dput l lo len sp la t w := by unfold S.q_dput; rw [Z_dput.2]
theorem S.q_dput_v {R : Type} (l : WL) (lo len : Nat) (sp la t w : Int) (k : AVal → List Blk → Option R) : fnEval tis F28 0 G27 Try.f28 [.ptr 0 0 0, .int .i64 t, .int .i64 w] [.var [.slice 1 1 lo len none, .int .i64 sp, .int .i64 la], .rows (.box 92 (.pair (.int .i64) (.int .i64))) l false] k = oK (Sum.elim (fun v : Nat × Nat × Int × Int × WL => k (.int .i64 (1)) [(.var [(.slice 1 1 v.1 v.2.1 none), (.int .i64 v.2.2.1), (.int .i64 v.2.2.2.1)]), (.rows (Cd.box 92 (Cd.pair (Cd.int .i64) (Cd.int .i64))) v.2.2.2.2 false)]) (fun v : Nat × Int × Int × List (Option (Int × Int)) => k (.int .i64 (0)) [(.var [(.slice 1 2 0 v.1 none), (.int .i64 v.2.1), (.int .i64 v.2.2.1)]), .dead, (.rows (Cd.box 92 (Cd.pair (Cd.int .i64) (Cd.int .i64))) v.2.2.2 false)])) (S.q_dput l lo len sp la t w) :=
  (S.dput_v l lo len sp la t w k).trans (by rw [S.q_dput_eq])
noncomputable def Z_dput1 : {f : ∀ (sp la t w : Int), (Int × Int) ⊕ (Int × Int × List (Option (Int × Int))) // f = fun (sp la t w : Int) => S.dput1 sp la t w} := Classical.choice ⟨⟨_, rfl⟩⟩
noncomputable def S.q_dput1 (sp la t w : Int) : (Int × Int) ⊕ (Int × Int × List (Option (Int × Int))) := Z_dput1.1 sp la t w
theorem S.q_dput1_eq (sp la t w : Int) : S.q_dput1 sp la t w = S.dput1 sp la t w := by unfold S.q_dput1; rw [Z_dput1.2]
theorem S.q_dput1_v {R : Type} (sp la t w : Int) (k : AVal → List Blk → Option R) : fnEval tis F28 0 G27 Try.f28 [.ptr 0 0 0, .int .i64 t, .int .i64 w] [.var [.nils, .int .i64 sp, .int .i64 la]] k = (Sum.elim (fun v : Int × Int => k (.int .i64 (1)) [(.var [.nils, (.int .i64 v.1), (.int .i64 v.2)])]) (fun v : Int × Int × List (Option (Int × Int)) => k (.int .i64 (0)) [(.var [(.slice 1 1 0 1 none), (.int .i64 v.1), (.int .i64 v.2.1)]), (.rows (Cd.box 92 (Cd.pair (Cd.int .i64) (Cd.int .i64))) v.2.2 false)])) (S.q_dput1 sp la t w) :=
  (S.dput1_v sp la t w k).trans (by rw [S.q_dput1_eq])
noncomputable def Z_dput2 : {f : ∀ (t w : Int), Int // f = fun (t w : Int) => S.dput2 t w} := Classical.choice ⟨⟨_, rfl⟩⟩
noncomputable def S.q_dput2 (t w : Int) : Int := Z_dput2.1 t w
theorem S.q_dput2_eq (t w : Int) : S.q_dput2 t w = S.dput2 t w := by unfold S.q_dput2; rw [Z_dput2.2]
theorem S.q_dput2_v {R : Type} (t w : Int) (k : AVal → List Blk → Option R) : fnEval tis F28 0 G27 Try.f28 [.nilp, .int .i64 t, .int .i64 w] [] k = k (.int .i64 (S.q_dput2 t w)) [] :=
  (S.dput2_v t w k).trans (by rw [S.q_dput2_eq])
noncomputable def H28s : Hnd := fun R args σ k => match args, σ with
  | [.ptr 0 0 0, .int .i64 t, .int .i64 w], [.var [.slice 1 1 lo len none, .int .i64 sp, .int .i64 la], .rows (.box 92 (.pair (.int .i64) (.int .i64))) l false] => oK (Sum.elim (fun v : Nat × Nat × Int × Int × WL => k (.int .i64 (1)) [(.var [(.slice 1 1 v.1 v.2.1 none), (.int .i64 v.2.2.1), (.int .i64 v.2.2.2.1)]), (.rows (Cd.box 92 (Cd.pair (Cd.int .i64) (Cd.int .i64))) v.2.2.2.2 false)]) (fun v : Nat × Int × Int × List (Option (Int × Int)) => k (.int .i64 (0)) [(.var [(.slice 1 2 0 v.1 none), (.int .i64 v.2.1), (.int .i64 v.2.2.1)]), .dead, (.rows (Cd.box 92 (Cd.pair (Cd.int .i64) (Cd.int .i64))) v.2.2.2 false)])) (S.q_dput l lo len sp la t w)
  | [.ptr 0 0 0, .int .i64 t, .int .i64 w], [.var [.nils, .int .i64 sp, .int .i64 la]] => (Sum.elim (fun v : Int × Int => k (.int .i64 (1)) [(.var [.nils, (.int .i64 v.1), (.int .i64 v.2)])]) (fun v : Int × Int × List (Option (Int × Int)) => k (.int .i64 (0)) [(.var [(.slice 1 1 0 1 none), (.int .i64 v.1), (.int .i64 v.2.1)]), (.rows (Cd.box 92 (Cd.pair (Cd.int .i64) (Cd.int .i64))) v.2.2 false)])) (S.q_dput1 sp la t w)
  | [.nilp, .int .i64 t, .int .i64 w], [] => k (.int .i64 (S.q_dput2 t w)) []
  | _, _ => none
theorem H28s_ok : HndOk Try.prog 28 H28s := hnd_ok tis tisOk mixOk G27_ok F28 Try.func28 rfl (by
  intro R args σ k r h
  unfold H28s at h
  split at h
  · rename_i t w lo len sp la l; exact ⟨0, (S.q_dput_v l lo len sp la t w _).trans h⟩
  · rename_i t w sp la; exact ⟨0, (S.q_dput1_v sp la t w _).trans h⟩
  · rename_i t w; exact ⟨0, (S.q_dput2_v t w _).trans h⟩
  · cases h)
noncomputable def G28s : Env := Env.add 28 H28s G34
theorem G28s_ok : EnvOk Try.prog G28s := envAdd_ok H28s_ok G34_ok
noncomputable def Z_dmost : {f : ∀ (fu : Nat) (l : WL) (lo len : Nat) (sp la t : Int), Option (Int × Nat × Nat × Int × Int × WL) // f = fun (fu : Nat) (l : WL) (lo len : Nat) (sp la t : Int) => S.dmost fu l lo len sp la t} := Classical.choice ⟨⟨_, rfl⟩⟩
noncomputable def S.q_dmost (fu : Nat) (l : WL) (lo len : Nat) (sp la t : Int) : Option (Int × Nat × Nat × Int × Int × WL) := Z_dmost.1 fu l lo len sp la t
theorem S.q_dmost_eq (fu : Nat) (l : WL) (lo len : Nat) (sp la t : Int) : S.q_dmost fu l lo len sp la t = S.dmost fu l lo len sp la t := by unfold S.q_dmost; rw [Z_dmost.2]
theorem S.q_dmost_v {R : Type} (fu : Nat) (l : WL) (lo len : Nat) (sp la t : Int) (k : AVal → List Blk → Option R) : fnEval tis F29 fu G28 Try.f29 [.ptr 0 0 0, .int .i64 t] [.var [.slice 1 1 lo len none, .int .i64 sp, .int .i64 la], .rows (.box 92 (.pair (.int .i64) (.int .i64))) l false] k = oK (fun v : Int × Nat × Nat × Int × Int × WL => k (.int .i64 v.1) [(.var [(.slice 1 1 v.2.1 v.2.2.1 none), (.int .i64 v.2.2.2.1), (.int .i64 v.2.2.2.2.1)]), (.rows (Cd.box 92 (Cd.pair (Cd.int .i64) (Cd.int .i64))) v.2.2.2.2.2 false)]) (S.q_dmost fu l lo len sp la t) :=
  (S.dmost_v fu l lo len sp la t k).trans (by rw [S.q_dmost_eq])
noncomputable def Z_dmost1 : {f : ∀ (fu : Nat) (sp la t : Int), Option (Int × Int × Int) // f = fun (fu : Nat) (sp la t : Int) => S.dmost1 fu sp la t} := Classical.choice ⟨⟨_, rfl⟩⟩
noncomputable def S.q_dmost1 (fu : Nat) (sp la t : Int) : Option (Int × Int × Int) := Z_dmost1.1 fu sp la t
theorem S.q_dmost1_eq (fu : Nat) (sp la t : Int) : S.q_dmost1 fu sp la t = S.dmost1 fu sp la t := by unfold S.q_dmost1; rw [Z_dmost1.2]
theorem S.q_dmost1_v {R : Type} (fu : Nat) (sp la t : Int) (k : AVal → List Blk → Option R) : fnEval tis F29 fu G28 Try.f29 [.ptr 0 0 0, .int .i64 t] [.var [.nils, .int .i64 sp, .int .i64 la]] k = oK (fun v : Int × Int × Int => k (.int .i64 v.1) [(.var [.nils, (.int .i64 v.2.1), (.int .i64 v.2.2)])]) (S.q_dmost1 fu sp la t) :=
  (S.dmost1_v fu sp la t k).trans (by rw [S.q_dmost1_eq])
noncomputable def Z_dmost2 : {f : ∀ (fu : Nat) (t : Int), Option (Int) // f = fun (fu : Nat) (t : Int) => S.dmost2 fu t} := Classical.choice ⟨⟨_, rfl⟩⟩
noncomputable def S.q_dmost2 (fu : Nat) (t : Int) : Option (Int) := Z_dmost2.1 fu t
theorem S.q_dmost2_eq (fu : Nat) (t : Int) : S.q_dmost2 fu t = S.dmost2 fu t := by unfold S.q_dmost2; rw [Z_dmost2.2]
theorem S.q_dmost2_v {R : Type} (fu : Nat) (t : Int) (k : AVal → List Blk → Option R) : fnEval tis F29 fu G28 Try.f29 [.nilp, .int .i64 t] [] k = oK (fun v : Int => k (.int .i64 v) []) (S.q_dmost2 fu t) :=
  (S.dmost2_v fu t k).trans (by rw [S.q_dmost2_eq])
noncomputable def H29s : Hnd := fun R args σ k => match args, σ with
  | [.ptr 0 0 0, .int .i64 t], [.var [.slice 1 1 lo len none, .int .i64 sp, .int .i64 la], .rows (.box 92 (.pair (.int .i64) (.int .i64))) l false] => oK (fun v : Int × Nat × Nat × Int × Int × WL => k (.int .i64 v.1) [(.var [(.slice 1 1 v.2.1 v.2.2.1 none), (.int .i64 v.2.2.2.1), (.int .i64 v.2.2.2.2.1)]), (.rows (Cd.box 92 (Cd.pair (Cd.int .i64) (Cd.int .i64))) v.2.2.2.2.2 false)]) (S.q_dmost 100000 l lo len sp la t)
  | [.ptr 0 0 0, .int .i64 t], [.var [.nils, .int .i64 sp, .int .i64 la]] => oK (fun v : Int × Int × Int => k (.int .i64 v.1) [(.var [.nils, (.int .i64 v.2.1), (.int .i64 v.2.2)])]) (S.q_dmost1 100000 sp la t)
  | [.nilp, .int .i64 t], [] => oK (fun v : Int => k (.int .i64 v) []) (S.q_dmost2 100000 t)
  | _, _ => none
theorem H29s_ok : HndOk Try.prog 29 H29s := hnd_ok tis tisOk mixOk G28_ok F29 Try.func29 rfl (by
  intro R args σ k r h
  unfold H29s at h
  split at h
  · rename_i t lo len sp la l; exact ⟨100000, (S.q_dmost_v 100000 l lo len sp la t _).trans h⟩
  · rename_i t sp la; exact ⟨100000, (S.q_dmost1_v 100000 sp la t _).trans h⟩
  · rename_i t; exact ⟨100000, (S.q_dmost2_v 100000 t _).trans h⟩
  · cases h)
noncomputable def G29s : Env := Env.add 29 H29s G28s
theorem G29s_ok : EnvOk Try.prog G29s := envAdd_ok H29s_ok G28s_ok
noncomputable def Z_dspan : {f : ∀ (l : WL) (lo len : Nat) (sp la x : Int), Int × Nat × Nat × Int × Int × WL // f = fun (l : WL) (lo len : Nat) (sp la x : Int) => S.dspan l lo len sp la x} := Classical.choice ⟨⟨_, rfl⟩⟩
noncomputable def S.q_dspan (l : WL) (lo len : Nat) (sp la x : Int) : Int × Nat × Nat × Int × Int × WL := Z_dspan.1 l lo len sp la x
theorem S.q_dspan_eq (l : WL) (lo len : Nat) (sp la x : Int) : S.q_dspan l lo len sp la x = S.dspan l lo len sp la x := by unfold S.q_dspan; rw [Z_dspan.2]
theorem S.q_dspan_v {R : Type} (l : WL) (lo len : Nat) (sp la x : Int) (k : AVal → List Blk → Option R) : fnEval tis F30 0 G29 Try.f30 [.ptr 0 0 0, .int .i64 x] [.var [.slice 1 1 lo len none, .int .i64 sp, .int .i64 la], .rows (.box 92 (.pair (.int .i64) (.int .i64))) l false] k = k (.int .i64 (S.q_dspan l lo len sp la x).1) [(.var [(.slice 1 1 (S.q_dspan l lo len sp la x).2.1 (S.q_dspan l lo len sp la x).2.2.1 none), (.int .i64 (S.q_dspan l lo len sp la x).2.2.2.1), (.int .i64 (S.q_dspan l lo len sp la x).2.2.2.2.1)]), (.rows (Cd.box 92 (Cd.pair (Cd.int .i64) (Cd.int .i64))) (S.q_dspan l lo len sp la x).2.2.2.2.2 false)] :=
  (S.dspan_v l lo len sp la x k).trans (by rw [S.q_dspan_eq])
noncomputable def Z_dspan1 : {f : ∀ (sp la x : Int), Int × Int × Int // f = fun (sp la x : Int) => S.dspan1 sp la x} := Classical.choice ⟨⟨_, rfl⟩⟩
noncomputable def S.q_dspan1 (sp la x : Int) : Int × Int × Int := Z_dspan1.1 sp la x
theorem S.q_dspan1_eq (sp la x : Int) : S.q_dspan1 sp la x = S.dspan1 sp la x := by unfold S.q_dspan1; rw [Z_dspan1.2]
theorem S.q_dspan1_v {R : Type} (sp la x : Int) (k : AVal → List Blk → Option R) : fnEval tis F30 0 G29 Try.f30 [.ptr 0 0 0, .int .i64 x] [.var [.nils, .int .i64 sp, .int .i64 la]] k = k (.int .i64 (S.q_dspan1 sp la x).1) [(.var [.nils, (.int .i64 (S.q_dspan1 sp la x).2.1), (.int .i64 (S.q_dspan1 sp la x).2.2)])] :=
  (S.dspan1_v sp la x k).trans (by rw [S.q_dspan1_eq])
noncomputable def H30s : Hnd := fun R args σ k => match args, σ with
  | [.ptr 0 0 0, .int .i64 x], [.var [.slice 1 1 lo len none, .int .i64 sp, .int .i64 la], .rows (.box 92 (.pair (.int .i64) (.int .i64))) l false] => k (.int .i64 (S.q_dspan l lo len sp la x).1) [(.var [(.slice 1 1 (S.q_dspan l lo len sp la x).2.1 (S.q_dspan l lo len sp la x).2.2.1 none), (.int .i64 (S.q_dspan l lo len sp la x).2.2.2.1), (.int .i64 (S.q_dspan l lo len sp la x).2.2.2.2.1)]), (.rows (Cd.box 92 (Cd.pair (Cd.int .i64) (Cd.int .i64))) (S.q_dspan l lo len sp la x).2.2.2.2.2 false)]
  | [.ptr 0 0 0, .int .i64 x], [.var [.nils, .int .i64 sp, .int .i64 la]] => k (.int .i64 (S.q_dspan1 sp la x).1) [(.var [.nils, (.int .i64 (S.q_dspan1 sp la x).2.1), (.int .i64 (S.q_dspan1 sp la x).2.2)])]
  | _, _ => none
theorem H30s_ok : HndOk Try.prog 30 H30s := hnd_ok tis tisOk mixOk G29_ok F30 Try.func30 rfl (by
  intro R args σ k r h
  unfold H30s at h
  split at h
  · rename_i x lo len sp la l; exact ⟨0, (S.q_dspan_v l lo len sp la x _).trans h⟩
  · rename_i x sp la; exact ⟨0, (S.q_dspan1_v sp la x _).trans h⟩
  · cases h)
noncomputable def G30s : Env := Env.add 30 H30s G29s
theorem G30s_ok : EnvOk Try.prog G30s := envAdd_ok H30s_ok G29s_ok
noncomputable def Z_rdput : {f : ∀ (r : RL) (lo len : Nat) (sp t w : Int), Option ((Int × Nat × Nat × RL) ⊕ (Int × Nat × List (Int × Int))) // f = fun (r : RL) (lo len : Nat) (sp t w : Int) => S.rdput r lo len sp t w} := Classical.choice ⟨⟨_, rfl⟩⟩
noncomputable def S.q_rdput (r : RL) (lo len : Nat) (sp t w : Int) : Option ((Int × Nat × Nat × RL) ⊕ (Int × Nat × List (Int × Int))) := Z_rdput.1 r lo len sp t w
theorem S.q_rdput_eq (r : RL) (lo len : Nat) (sp t w : Int) : S.q_rdput r lo len sp t w = S.rdput r lo len sp t w := by unfold S.q_rdput; rw [Z_rdput.2]
theorem S.q_rdput_v {R : Type} (r : RL) (lo len : Nat) (sp t w : Int) (k : AVal → List Blk → Option R) : fnEval tis F33 0 G32 Try.f33 [.ptr 0 0 0, .int .i64 t, .int .i64 w] [.var [.int .i64 sp, .slice 2 1 lo len none], .rows (.pair (.int .i64) (.int .i64)) r false] k = oK (Sum.elim (fun v : Int × Nat × Nat × RL => k (.int .i64 (1)) [(.var [(.int .i64 v.1), (.slice 2 1 v.2.1 v.2.2.1 none)]), (.rows (Cd.pair (Cd.int .i64) (Cd.int .i64)) v.2.2.2 false)]) (fun v : Int × Nat × List (Int × Int) => k (.int .i64 (0)) [(.var [(.int .i64 v.1), (.slice 2 2 0 v.2.1 none)]), .dead, (.rows (Cd.pair (Cd.int .i64) (Cd.int .i64)) v.2.2 false)])) (S.q_rdput r lo len sp t w) :=
  (S.rdput_v r lo len sp t w k).trans (by rw [S.q_rdput_eq])
noncomputable def Z_rdput1 : {f : ∀ (sp t w : Int), (Int) ⊕ (Int × List (Int × Int)) // f = fun (sp t w : Int) => S.rdput1 sp t w} := Classical.choice ⟨⟨_, rfl⟩⟩
noncomputable def S.q_rdput1 (sp t w : Int) : (Int) ⊕ (Int × List (Int × Int)) := Z_rdput1.1 sp t w
theorem S.q_rdput1_eq (sp t w : Int) : S.q_rdput1 sp t w = S.rdput1 sp t w := by unfold S.q_rdput1; rw [Z_rdput1.2]
theorem S.q_rdput1_v {R : Type} (sp t w : Int) (k : AVal → List Blk → Option R) : fnEval tis F33 0 G32 Try.f33 [.ptr 0 0 0, .int .i64 t, .int .i64 w] [.var [.int .i64 sp, .nils]] k = (Sum.elim (fun v : Int => k (.int .i64 (1)) [(.var [(.int .i64 v), .nils])]) (fun v : Int × List (Int × Int) => k (.int .i64 (0)) [(.var [(.int .i64 v.1), (.slice 2 1 0 1 none)]), (.rows (Cd.pair (Cd.int .i64) (Cd.int .i64)) v.2 false)])) (S.q_rdput1 sp t w) :=
  (S.rdput1_v sp t w k).trans (by rw [S.q_rdput1_eq])
noncomputable def H33s : Hnd := fun R args σ k => match args, σ with
  | [.ptr 0 0 0, .int .i64 t, .int .i64 w], [.var [.int .i64 sp, .slice 2 1 lo len none], .rows (.pair (.int .i64) (.int .i64)) r false] => oK (Sum.elim (fun v : Int × Nat × Nat × RL => k (.int .i64 (1)) [(.var [(.int .i64 v.1), (.slice 2 1 v.2.1 v.2.2.1 none)]), (.rows (Cd.pair (Cd.int .i64) (Cd.int .i64)) v.2.2.2 false)]) (fun v : Int × Nat × List (Int × Int) => k (.int .i64 (0)) [(.var [(.int .i64 v.1), (.slice 2 2 0 v.2.1 none)]), .dead, (.rows (Cd.pair (Cd.int .i64) (Cd.int .i64)) v.2.2 false)])) (S.q_rdput r lo len sp t w)
  | [.ptr 0 0 0, .int .i64 t, .int .i64 w], [.var [.int .i64 sp, .nils]] => (Sum.elim (fun v : Int => k (.int .i64 (1)) [(.var [(.int .i64 v), .nils])]) (fun v : Int × List (Int × Int) => k (.int .i64 (0)) [(.var [(.int .i64 v.1), (.slice 2 1 0 1 none)]), (.rows (Cd.pair (Cd.int .i64) (Cd.int .i64)) v.2 false)])) (S.q_rdput1 sp t w)
  | _, _ => none
theorem H33s_ok : HndOk Try.prog 33 H33s := hnd_ok tis tisOk mixOk G32_ok F33 Try.func33 rfl (by
  intro R args σ k r h
  unfold H33s at h
  split at h
  · rename_i t w sp lo len r; exact ⟨0, (S.q_rdput_v r lo len sp t w _).trans h⟩
  · rename_i t w sp; exact ⟨0, (S.q_rdput1_v sp t w _).trans h⟩
  · cases h)
noncomputable def G33s : Env := Env.add 33 H33s G30s
theorem G33s_ok : EnvOk Try.prog G33s := envAdd_ok H33s_ok G30s_ok
noncomputable def Z_rdmost : {f : ∀ (fu : Nat) (r : RL) (lo len : Nat) (sp t : Int), Option (Int × Int × Nat × Nat × RL) // f = fun (fu : Nat) (r : RL) (lo len : Nat) (sp t : Int) => S.rdmost fu r lo len sp t} := Classical.choice ⟨⟨_, rfl⟩⟩
noncomputable def S.q_rdmost (fu : Nat) (r : RL) (lo len : Nat) (sp t : Int) : Option (Int × Int × Nat × Nat × RL) := Z_rdmost.1 fu r lo len sp t
theorem S.q_rdmost_eq (fu : Nat) (r : RL) (lo len : Nat) (sp t : Int) : S.q_rdmost fu r lo len sp t = S.rdmost fu r lo len sp t := by unfold S.q_rdmost; rw [Z_rdmost.2]
theorem S.q_rdmost_v {R : Type} (fu : Nat) (r : RL) (lo len : Nat) (sp t : Int) (k : AVal → List Blk → Option R) : fnEval tis F35 fu G33 Try.f35 [.ptr 0 0 0, .int .i64 t] [.var [.int .i64 sp, .slice 2 1 lo len none], .rows (.pair (.int .i64) (.int .i64)) r false] k = oK (fun v : Int × Int × Nat × Nat × RL => k (.int .i64 v.1) [(.var [(.int .i64 v.2.1), (.slice 2 1 v.2.2.1 v.2.2.2.1 none)]), (.rows (Cd.pair (Cd.int .i64) (Cd.int .i64)) v.2.2.2.2 false)]) (S.q_rdmost fu r lo len sp t) :=
  (S.rdmost_v fu r lo len sp t k).trans (by rw [S.q_rdmost_eq])
noncomputable def Z_rdmost1 : {f : ∀ (fu : Nat) (sp t : Int), Option (Int × Int) // f = fun (fu : Nat) (sp t : Int) => S.rdmost1 fu sp t} := Classical.choice ⟨⟨_, rfl⟩⟩
noncomputable def S.q_rdmost1 (fu : Nat) (sp t : Int) : Option (Int × Int) := Z_rdmost1.1 fu sp t
theorem S.q_rdmost1_eq (fu : Nat) (sp t : Int) : S.q_rdmost1 fu sp t = S.rdmost1 fu sp t := by unfold S.q_rdmost1; rw [Z_rdmost1.2]
theorem S.q_rdmost1_v {R : Type} (fu : Nat) (sp t : Int) (k : AVal → List Blk → Option R) : fnEval tis F35 fu G33 Try.f35 [.ptr 0 0 0, .int .i64 t] [.var [.int .i64 sp, .nils]] k = oK (fun v : Int × Int => k (.int .i64 v.1) [(.var [(.int .i64 v.2), .nils])]) (S.q_rdmost1 fu sp t) :=
  (S.rdmost1_v fu sp t k).trans (by rw [S.q_rdmost1_eq])
noncomputable def H35s : Hnd := fun R args σ k => match args, σ with
  | [.ptr 0 0 0, .int .i64 t], [.var [.int .i64 sp, .slice 2 1 lo len none], .rows (.pair (.int .i64) (.int .i64)) r false] => oK (fun v : Int × Int × Nat × Nat × RL => k (.int .i64 v.1) [(.var [(.int .i64 v.2.1), (.slice 2 1 v.2.2.1 v.2.2.2.1 none)]), (.rows (Cd.pair (Cd.int .i64) (Cd.int .i64)) v.2.2.2.2 false)]) (S.q_rdmost 100000 r lo len sp t)
  | [.ptr 0 0 0, .int .i64 t], [.var [.int .i64 sp, .nils]] => oK (fun v : Int × Int => k (.int .i64 v.1) [(.var [(.int .i64 v.2), .nils])]) (S.q_rdmost1 100000 sp t)
  | _, _ => none
theorem H35s_ok : HndOk Try.prog 35 H35s := hnd_ok tis tisOk mixOk G33_ok F35 Try.func35 rfl (by
  intro R args σ k r h
  unfold H35s at h
  split at h
  · rename_i t sp lo len r; exact ⟨100000, (S.q_rdmost_v 100000 r lo len sp t _).trans h⟩
  · rename_i t sp; exact ⟨100000, (S.q_rdmost1_v 100000 sp t _).trans h⟩
  · cases h)
noncomputable def G35s : Env := Env.add 35 H35s G33s
theorem G35s_ok : EnvOk Try.prog G35s := envAdd_ok H35s_ok G33s_ok
noncomputable def Z_rdchange : {f : ∀ (r : RL) (lo len : Nat) (sp x : Int), Int × Int × Nat × Nat × RL // f = fun (r : RL) (lo len : Nat) (sp x : Int) => S.rdchange r lo len sp x} := Classical.choice ⟨⟨_, rfl⟩⟩
noncomputable def S.q_rdchange (r : RL) (lo len : Nat) (sp x : Int) : Int × Int × Nat × Nat × RL := Z_rdchange.1 r lo len sp x
theorem S.q_rdchange_eq (r : RL) (lo len : Nat) (sp x : Int) : S.q_rdchange r lo len sp x = S.rdchange r lo len sp x := by unfold S.q_rdchange; rw [Z_rdchange.2]
theorem S.q_rdchange_v {R : Type} (r : RL) (lo len : Nat) (sp x : Int) (k : AVal → List Blk → Option R) : fnEval tis F34 0 G35 Try.f34 [.ptr 0 0 0, .int .i64 x] [.var [.int .i64 sp, .slice 2 1 lo len none], .rows (.pair (.int .i64) (.int .i64)) r false] k = k (.int .i64 (S.q_rdchange r lo len sp x).1) [(.var [(.int .i64 (S.q_rdchange r lo len sp x).2.1), (.slice 2 1 (S.q_rdchange r lo len sp x).2.2.1 (S.q_rdchange r lo len sp x).2.2.2.1 none)]), (.rows (Cd.pair (Cd.int .i64) (Cd.int .i64)) (S.q_rdchange r lo len sp x).2.2.2.2 false)] :=
  (S.rdchange_v r lo len sp x k).trans (by rw [S.q_rdchange_eq])
noncomputable def Z_rdchange1 : {f : ∀ (sp x : Int), Int × Int // f = fun (sp x : Int) => S.rdchange1 sp x} := Classical.choice ⟨⟨_, rfl⟩⟩
noncomputable def S.q_rdchange1 (sp x : Int) : Int × Int := Z_rdchange1.1 sp x
theorem S.q_rdchange1_eq (sp x : Int) : S.q_rdchange1 sp x = S.rdchange1 sp x := by unfold S.q_rdchange1; rw [Z_rdchange1.2]
theorem S.q_rdchange1_v {R : Type} (sp x : Int) (k : AVal → List Blk → Option R) : fnEval tis F34 0 G35 Try.f34 [.ptr 0 0 0, .int .i64 x] [.var [.int .i64 sp, .nils]] k = k (.int .i64 (S.q_rdchange1 sp x).1) [(.var [(.int .i64 (S.q_rdchange1 sp x).2), .nils])] :=
  (S.rdchange1_v sp x k).trans (by rw [S.q_rdchange1_eq])
noncomputable def H34s : Hnd := fun R args σ k => match args, σ with
  | [.ptr 0 0 0, .int .i64 x], [.var [.int .i64 sp, .slice 2 1 lo len none], .rows (.pair (.int .i64) (.int .i64)) r false] => k (.int .i64 (S.q_rdchange r lo len sp x).1) [(.var [(.int .i64 (S.q_rdchange r lo len sp x).2.1), (.slice 2 1 (S.q_rdchange r lo len sp x).2.2.1 (S.q_rdchange r lo len sp x).2.2.2.1 none)]), (.rows (Cd.pair (Cd.int .i64) (Cd.int .i64)) (S.q_rdchange r lo len sp x).2.2.2.2 false)]
  | [.ptr 0 0 0, .int .i64 x], [.var [.int .i64 sp, .nils]] => k (.int .i64 (S.q_rdchange1 sp x).1) [(.var [(.int .i64 (S.q_rdchange1 sp x).2), .nils])]
  | _, _ => none
theorem H34s_ok : HndOk Try.prog 34 H34s := hnd_ok tis tisOk mixOk G35_ok F34 Try.func34 rfl (by
  intro R args σ k r h
  unfold H34s at h
  split at h
  · rename_i x sp lo len r; exact ⟨0, (S.q_rdchange_v r lo len sp x _).trans h⟩
  · rename_i x sp; exact ⟨0, (S.q_rdchange1_v sp x _).trans h⟩
  · cases h)
noncomputable def G34s : Env := Env.add 34 H34s G35s
theorem G34s_ok : EnvOk Try.prog G34s := envAdd_ok H34s_ok G35s_ok
end Go.Proofs.Ytfoaihjkmfhaoaa.AB
