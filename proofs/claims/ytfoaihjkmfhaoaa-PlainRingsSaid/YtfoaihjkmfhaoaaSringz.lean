/- Rings and sums by all that was, shut. -/
import Derived.Test.YtfoaihjkmfhaoaaSring2
namespace Go.Proofs.Ytfoaihjkmfhaoaa.AB
set_option linter.unusedVariables false
noncomputable def Z_pring : {f : ∀ (w g : Int), Option ((Unit) ⊕ (Int × Int × Int)) // f = fun (w g : Int) => S.pring w g} := Classical.choice ⟨⟨_, rfl⟩⟩
noncomputable def S.q_pring (w g : Int) : Option ((Unit) ⊕ (Int × Int × Int)) := Z_pring.1 w g
theorem S.q_pring_eq (w g : Int) : S.q_pring w g = S.pring w g := by unfold S.q_pring; rw [Z_pring.2]
theorem S.q_pring_v {R : Type} (w g : Int) (k : AVal → List Blk → Option R) : fnEval tis F23 0 G45 Try.f23 [.int .i64 w, .int .i64 g] [] k = oK (Sum.elim (fun v : Unit => k .nilp []) (fun v : Int × Int × Int => k (.ptr 0 (0) 0) [(.var [.nils, (.int .i64 v.1), (.int .i64 v.2.1), (.int .i64 v.2.2), (.int .i64 (-1)), (.bool (false))])])) (S.q_pring w g) :=
  (S.pring_v w g k).trans (by rw [S.q_pring_eq])
noncomputable def H23s : Hnd := fun R args σ k => match args, σ with
  | [.int .i64 w, .int .i64 g], [] => oK (Sum.elim (fun v : Unit => k .nilp []) (fun v : Int × Int × Int => k (.ptr 0 (0) 0) [(.var [.nils, (.int .i64 v.1), (.int .i64 v.2.1), (.int .i64 v.2.2), (.int .i64 (-1)), (.bool (false))])])) (S.q_pring w g)
  | _, _ => none
theorem H23s_ok : HndOk Try.prog 23 H23s := hnd_ok tis tisOk mixOk G45_ok F23 Try.func23 rfl (by
  intro R args σ k r h
  unfold H23s at h
  split at h
  · rename_i w g; exact ⟨0, (S.q_pring_v w g _).trans h⟩
  · cases h)
noncomputable def G23s : Env := Env.add 23 H23s G26
theorem G23s_ok : EnvOk Try.prog G23s := envAdd_ok H23s_ok G26_ok
noncomputable def Z_rp : {f : ∀ (l : FL) (f : BL) (lo len : Nat) (rw rg rn nw : Int) (ov : Bool) (t v : Int), Option (Int × Nat × Nat × Int × Int × Int × Int × Bool × List (Option Nat) × BL) // f = fun (l : FL) (f : BL) (lo len : Nat) (rw rg rn nw : Int) (ov : Bool) (t v : Int) => S.rp l f lo len rw rg rn nw ov t v} := Classical.choice ⟨⟨_, rfl⟩⟩
noncomputable def S.q_rp (l : FL) (f : BL) (lo len : Nat) (rw rg rn nw : Int) (ov : Bool) (t v : Int) : Option (Int × Nat × Nat × Int × Int × Int × Int × Bool × List (Option Nat) × BL) := Z_rp.1 l f lo len rw rg rn nw ov t v
theorem S.q_rp_eq (l : FL) (f : BL) (lo len : Nat) (rw rg rn nw : Int) (ov : Bool) (t v : Int) : S.q_rp l f lo len rw rg rn nw ov t v = S.rp l f lo len rw rg rn nw ov t v := by unfold S.q_rp; rw [Z_rp.2]
theorem S.q_rp_v {R : Type} (l : FL) (f : BL) (lo len : Nat) (rw rg rn nw : Int) (ov : Bool) (t v : Int) (k : AVal → List Blk → Option R) : fnEval tis F24 0 G52 Try.f24 [.ptr 0 0 0, .int .i64 t, .int .i64 v] [.var [.slice 1 1 lo len none, .int .i64 rw, .int .i64 rg, .int .i64 rn, .int .i64 nw, .bool ov], .fam 86 (.pair (.int .i64) (.pair (.int .i64) (.pair (.int .i64) .bool))) l f] k = oK (fun v : Int × Nat × Nat × Int × Int × Int × Int × Bool × List (Option Nat) × BL => k (.int .i64 v.1) [(.var [(.slice 1 2 v.2.1 v.2.2.1 none), (.int .i64 v.2.2.2.1), (.int .i64 v.2.2.2.2.1), (.int .i64 v.2.2.2.2.2.1), (.int .i64 v.2.2.2.2.2.2.1), (.bool v.2.2.2.2.2.2.2.1)]), .dead, (.fam 86 (Cd.pair (Cd.int .i64) (Cd.pair (Cd.int .i64) (Cd.pair (Cd.int .i64) Cd.bool))) v.2.2.2.2.2.2.2.2.1 v.2.2.2.2.2.2.2.2.2)]) (S.q_rp l f lo len rw rg rn nw ov t v) :=
  (S.rp_v l f lo len rw rg rn nw ov t v k).trans (by rw [S.q_rp_eq])
noncomputable def Z_rp1 : {f : ∀ (rw rg rn nw : Int) (ov : Bool) (t v : Int), Option (Int × Nat × Int × Int × Int × Int × Bool × List (Option Nat) × List (Int × Int × Int × Bool)) // f = fun (rw rg rn nw : Int) (ov : Bool) (t v : Int) => S.rp1 rw rg rn nw ov t v} := Classical.choice ⟨⟨_, rfl⟩⟩
noncomputable def S.q_rp1 (rw rg rn nw : Int) (ov : Bool) (t v : Int) : Option (Int × Nat × Int × Int × Int × Int × Bool × List (Option Nat) × List (Int × Int × Int × Bool)) := Z_rp1.1 rw rg rn nw ov t v
theorem S.q_rp1_eq (rw rg rn nw : Int) (ov : Bool) (t v : Int) : S.q_rp1 rw rg rn nw ov t v = S.rp1 rw rg rn nw ov t v := by unfold S.q_rp1; rw [Z_rp1.2]
theorem S.q_rp1_v {R : Type} (rw rg rn nw : Int) (ov : Bool) (t v : Int) (k : AVal → List Blk → Option R) : fnEval tis F24 0 G52 Try.f24 [.ptr 0 0 0, .int .i64 t, .int .i64 v] [.var [.nils, .int .i64 rw, .int .i64 rg, .int .i64 rn, .int .i64 nw, .bool ov]] k = oK (fun v : Int × Nat × Int × Int × Int × Int × Bool × List (Option Nat) × List (Int × Int × Int × Bool) => k (.int .i64 v.1) [(.var [(.slice 1 1 (0) v.2.1 none), (.int .i64 v.2.2.1), (.int .i64 v.2.2.2.1), (.int .i64 v.2.2.2.2.1), (.int .i64 v.2.2.2.2.2.1), (.bool v.2.2.2.2.2.2.1)]), (.fam 86 (Cd.pair (Cd.int .i64) (Cd.pair (Cd.int .i64) (Cd.pair (Cd.int .i64) Cd.bool))) v.2.2.2.2.2.2.2.1 v.2.2.2.2.2.2.2.2)]) (S.q_rp1 rw rg rn nw ov t v) :=
  (S.rp1_v rw rg rn nw ov t v k).trans (by rw [S.q_rp1_eq])
noncomputable def Z_rp2 : {f : ∀ (t v : Int), Int // f = fun (t v : Int) => S.rp2 t v} := Classical.choice ⟨⟨_, rfl⟩⟩
noncomputable def S.q_rp2 (t v : Int) : Int := Z_rp2.1 t v
theorem S.q_rp2_eq (t v : Int) : S.q_rp2 t v = S.rp2 t v := by unfold S.q_rp2; rw [Z_rp2.2]
theorem S.q_rp2_v {R : Type} (t v : Int) (k : AVal → List Blk → Option R) : fnEval tis F24 0 G52 Try.f24 [.nilp, .int .i64 t, .int .i64 v] [] k = k (.int .i64 (S.q_rp2 t v)) [] :=
  (S.rp2_v t v k).trans (by rw [S.q_rp2_eq])
noncomputable def H24s : Hnd := fun R args σ k => match args, σ with
  | [.ptr 0 0 0, .int .i64 t, .int .i64 v], [.var [.slice 1 1 lo len none, .int .i64 rw, .int .i64 rg, .int .i64 rn, .int .i64 nw, .bool ov], .fam 86 (.pair (.int .i64) (.pair (.int .i64) (.pair (.int .i64) .bool))) l f] => oK (fun v : Int × Nat × Nat × Int × Int × Int × Int × Bool × List (Option Nat) × BL => k (.int .i64 v.1) [(.var [(.slice 1 2 v.2.1 v.2.2.1 none), (.int .i64 v.2.2.2.1), (.int .i64 v.2.2.2.2.1), (.int .i64 v.2.2.2.2.2.1), (.int .i64 v.2.2.2.2.2.2.1), (.bool v.2.2.2.2.2.2.2.1)]), .dead, (.fam 86 (Cd.pair (Cd.int .i64) (Cd.pair (Cd.int .i64) (Cd.pair (Cd.int .i64) Cd.bool))) v.2.2.2.2.2.2.2.2.1 v.2.2.2.2.2.2.2.2.2)]) (S.q_rp l f lo len rw rg rn nw ov t v)
  | [.ptr 0 0 0, .int .i64 t, .int .i64 v], [.var [.nils, .int .i64 rw, .int .i64 rg, .int .i64 rn, .int .i64 nw, .bool ov]] => oK (fun v : Int × Nat × Int × Int × Int × Int × Bool × List (Option Nat) × List (Int × Int × Int × Bool) => k (.int .i64 v.1) [(.var [(.slice 1 1 (0) v.2.1 none), (.int .i64 v.2.2.1), (.int .i64 v.2.2.2.1), (.int .i64 v.2.2.2.2.1), (.int .i64 v.2.2.2.2.2.1), (.bool v.2.2.2.2.2.2.1)]), (.fam 86 (Cd.pair (Cd.int .i64) (Cd.pair (Cd.int .i64) (Cd.pair (Cd.int .i64) Cd.bool))) v.2.2.2.2.2.2.2.1 v.2.2.2.2.2.2.2.2)]) (S.q_rp1 rw rg rn nw ov t v)
  | [.nilp, .int .i64 t, .int .i64 v], [] => k (.int .i64 (S.q_rp2 t v)) []
  | _, _ => none
theorem H24s_ok : HndOk Try.prog 24 H24s := hnd_ok tis tisOk mixOk G52_ok F24 Try.func24 rfl (by
  intro R args σ k r h
  unfold H24s at h
  split at h
  · rename_i t v lo len rw rg rn nw ov l f; exact ⟨0, (S.q_rp_v l f lo len rw rg rn nw ov t v _).trans h⟩
  · rename_i t v rw rg rn nw ov; exact ⟨0, (S.q_rp1_v rw rg rn nw ov t v _).trans h⟩
  · rename_i t v; exact ⟨0, (S.q_rp2_v t v _).trans h⟩
  · cases h)
noncomputable def G24s : Env := Env.add 24 H24s G23s
theorem G24s_ok : EnvOk Try.prog G24s := envAdd_ok H24s_ok G23s_ok
noncomputable def Z_rs : {f : ∀ (fu : Nat) (l : FL) (f : BL) (lo len : Nat) (rw rg rn nw : Int) (ov : Bool) (t : Int), Option (Int × Int × Nat × Nat × Int × Int × Int × Int × Bool × List (Option Nat) × BL) // f = fun (fu : Nat) (l : FL) (f : BL) (lo len : Nat) (rw rg rn nw : Int) (ov : Bool) (t : Int) => S.rs fu l f lo len rw rg rn nw ov t} := Classical.choice ⟨⟨_, rfl⟩⟩
noncomputable def S.q_rs (fu : Nat) (l : FL) (f : BL) (lo len : Nat) (rw rg rn nw : Int) (ov : Bool) (t : Int) : Option (Int × Int × Nat × Nat × Int × Int × Int × Int × Bool × List (Option Nat) × BL) := Z_rs.1 fu l f lo len rw rg rn nw ov t
theorem S.q_rs_eq (fu : Nat) (l : FL) (f : BL) (lo len : Nat) (rw rg rn nw : Int) (ov : Bool) (t : Int) : S.q_rs fu l f lo len rw rg rn nw ov t = S.rs fu l f lo len rw rg rn nw ov t := by unfold S.q_rs; rw [Z_rs.2]
theorem S.q_rs_v {R : Type} (fu : Nat) (l : FL) (f : BL) (lo len : Nat) (rw rg rn nw : Int) (ov : Bool) (t : Int) (k : AVal → List Blk → Option R) : fnEval tis F25 fu G24 Try.f25 [.ptr 0 0 0, .int .i64 t] [.var [.slice 1 1 lo len none, .int .i64 rw, .int .i64 rg, .int .i64 rn, .int .i64 nw, .bool ov], .fam 86 (.pair (.int .i64) (.pair (.int .i64) (.pair (.int .i64) .bool))) l f] k = oK (fun v : Int × Int × Nat × Nat × Int × Int × Int × Int × Bool × List (Option Nat) × BL => k (.tuple [(.int .i64 v.1), (.int .i64 v.2.1)]) [(.var [(.slice 1 1 v.2.2.1 v.2.2.2.1 none), (.int .i64 v.2.2.2.2.1), (.int .i64 v.2.2.2.2.2.1), (.int .i64 v.2.2.2.2.2.2.1), (.int .i64 v.2.2.2.2.2.2.2.1), (.bool v.2.2.2.2.2.2.2.2.1)]), (.fam 86 (Cd.pair (Cd.int .i64) (Cd.pair (Cd.int .i64) (Cd.pair (Cd.int .i64) Cd.bool))) v.2.2.2.2.2.2.2.2.2.1 v.2.2.2.2.2.2.2.2.2.2)]) (S.q_rs fu l f lo len rw rg rn nw ov t) :=
  (S.rs_v fu l f lo len rw rg rn nw ov t k).trans (by rw [S.q_rs_eq])
noncomputable def Z_rs1 : {f : ∀ (fu : Nat) (rw rg rn nw : Int) (ov : Bool) (t : Int), Option (Int × Int × Int × Int × Int × Int × Bool) // f = fun (fu : Nat) (rw rg rn nw : Int) (ov : Bool) (t : Int) => S.rs1 fu rw rg rn nw ov t} := Classical.choice ⟨⟨_, rfl⟩⟩
noncomputable def S.q_rs1 (fu : Nat) (rw rg rn nw : Int) (ov : Bool) (t : Int) : Option (Int × Int × Int × Int × Int × Int × Bool) := Z_rs1.1 fu rw rg rn nw ov t
theorem S.q_rs1_eq (fu : Nat) (rw rg rn nw : Int) (ov : Bool) (t : Int) : S.q_rs1 fu rw rg rn nw ov t = S.rs1 fu rw rg rn nw ov t := by unfold S.q_rs1; rw [Z_rs1.2]
theorem S.q_rs1_v {R : Type} (fu : Nat) (rw rg rn nw : Int) (ov : Bool) (t : Int) (k : AVal → List Blk → Option R) : fnEval tis F25 fu G24 Try.f25 [.ptr 0 0 0, .int .i64 t] [.var [.nils, .int .i64 rw, .int .i64 rg, .int .i64 rn, .int .i64 nw, .bool ov]] k = oK (fun v : Int × Int × Int × Int × Int × Int × Bool => k (.tuple [(.int .i64 v.1), (.int .i64 v.2.1)]) [(.var [.nils, (.int .i64 v.2.2.1), (.int .i64 v.2.2.2.1), (.int .i64 v.2.2.2.2.1), (.int .i64 v.2.2.2.2.2.1), (.bool v.2.2.2.2.2.2)])]) (S.q_rs1 fu rw rg rn nw ov t) :=
  (S.rs1_v fu rw rg rn nw ov t k).trans (by rw [S.q_rs1_eq])
noncomputable def Z_rs2 : {f : ∀ (fu : Nat) (t : Int), Option (Int × Int) // f = fun (fu : Nat) (t : Int) => S.rs2 fu t} := Classical.choice ⟨⟨_, rfl⟩⟩
noncomputable def S.q_rs2 (fu : Nat) (t : Int) : Option (Int × Int) := Z_rs2.1 fu t
theorem S.q_rs2_eq (fu : Nat) (t : Int) : S.q_rs2 fu t = S.rs2 fu t := by unfold S.q_rs2; rw [Z_rs2.2]
theorem S.q_rs2_v {R : Type} (fu : Nat) (t : Int) (k : AVal → List Blk → Option R) : fnEval tis F25 fu G24 Try.f25 [.nilp, .int .i64 t] [] k = oK (fun v : Int × Int => k (.tuple [(.int .i64 v.1), (.int .i64 v.2)]) []) (S.q_rs2 fu t) :=
  (S.rs2_v fu t k).trans (by rw [S.q_rs2_eq])
noncomputable def H25s : Hnd := fun R args σ k => match args, σ with
  | [.ptr 0 0 0, .int .i64 t], [.var [.slice 1 1 lo len none, .int .i64 rw, .int .i64 rg, .int .i64 rn, .int .i64 nw, .bool ov], .fam 86 (.pair (.int .i64) (.pair (.int .i64) (.pair (.int .i64) .bool))) l f] => oK (fun v : Int × Int × Nat × Nat × Int × Int × Int × Int × Bool × List (Option Nat) × BL => k (.tuple [(.int .i64 v.1), (.int .i64 v.2.1)]) [(.var [(.slice 1 1 v.2.2.1 v.2.2.2.1 none), (.int .i64 v.2.2.2.2.1), (.int .i64 v.2.2.2.2.2.1), (.int .i64 v.2.2.2.2.2.2.1), (.int .i64 v.2.2.2.2.2.2.2.1), (.bool v.2.2.2.2.2.2.2.2.1)]), (.fam 86 (Cd.pair (Cd.int .i64) (Cd.pair (Cd.int .i64) (Cd.pair (Cd.int .i64) Cd.bool))) v.2.2.2.2.2.2.2.2.2.1 v.2.2.2.2.2.2.2.2.2.2)]) (S.q_rs 100000 l f lo len rw rg rn nw ov t)
  | [.ptr 0 0 0, .int .i64 t], [.var [.nils, .int .i64 rw, .int .i64 rg, .int .i64 rn, .int .i64 nw, .bool ov]] => oK (fun v : Int × Int × Int × Int × Int × Int × Bool => k (.tuple [(.int .i64 v.1), (.int .i64 v.2.1)]) [(.var [.nils, (.int .i64 v.2.2.1), (.int .i64 v.2.2.2.1), (.int .i64 v.2.2.2.2.1), (.int .i64 v.2.2.2.2.2.1), (.bool v.2.2.2.2.2.2)])]) (S.q_rs1 100000 rw rg rn nw ov t)
  | [.nilp, .int .i64 t], [] => oK (fun v : Int × Int => k (.tuple [(.int .i64 v.1), (.int .i64 v.2)]) []) (S.q_rs2 100000 t)
  | _, _ => none
theorem H25s_ok : HndOk Try.prog 25 H25s := hnd_ok tis tisOk mixOk G24_ok F25 Try.func25 rfl (by
  intro R args σ k r h
  unfold H25s at h
  split at h
  · rename_i t lo len rw rg rn nw ov l f; exact ⟨100000, (S.q_rs_v 100000 l f lo len rw rg rn nw ov t _).trans h⟩
  · rename_i t rw rg rn nw ov; exact ⟨100000, (S.q_rs1_v 100000 rw rg rn nw ov t _).trans h⟩
  · rename_i t; exact ⟨100000, (S.q_rs2_v 100000 t _).trans h⟩
  · cases h)
noncomputable def G25s : Env := Env.add 25 H25s G24s
theorem G25s_ok : EnvOk Try.prog G25s := envAdd_ok H25s_ok G24s_ok
noncomputable def Z_rm : {f : ∀ (l : FL) (f : BL) (lo len : Nat) (rw rg rn nw : Int) (ov : Bool) (t : Int), Option (Int × Nat × Nat × Int × Int × Int × Int × Bool × List (Option Nat) × List (Int × Int × Int × Bool)) // f = fun (l : FL) (f : BL) (lo len : Nat) (rw rg rn nw : Int) (ov : Bool) (t : Int) => S.rm l f lo len rw rg rn nw ov t} := Classical.choice ⟨⟨_, rfl⟩⟩
noncomputable def S.q_rm (l : FL) (f : BL) (lo len : Nat) (rw rg rn nw : Int) (ov : Bool) (t : Int) : Option (Int × Nat × Nat × Int × Int × Int × Int × Bool × List (Option Nat) × List (Int × Int × Int × Bool)) := Z_rm.1 l f lo len rw rg rn nw ov t
theorem S.q_rm_eq (l : FL) (f : BL) (lo len : Nat) (rw rg rn nw : Int) (ov : Bool) (t : Int) : S.q_rm l f lo len rw rg rn nw ov t = S.rm l f lo len rw rg rn nw ov t := by unfold S.q_rm; rw [Z_rm.2]
theorem S.q_rm_v {R : Type} (l : FL) (f : BL) (lo len : Nat) (rw rg rn nw : Int) (ov : Bool) (t : Int) (k : AVal → List Blk → Option R) : fnEval tis F26 0 G25 Try.f26 [.ptr 0 0 0, .int .i64 t] [.var [.slice 1 1 lo len none, .int .i64 rw, .int .i64 rg, .int .i64 rn, .int .i64 nw, .bool ov], .fam 86 (.pair (.int .i64) (.pair (.int .i64) (.pair (.int .i64) .bool))) l f] k = oK (fun v : Int × Nat × Nat × Int × Int × Int × Int × Bool × List (Option Nat) × List (Int × Int × Int × Bool) => k (.int .i64 v.1) [(.var [(.slice 1 1 v.2.1 v.2.2.1 none), (.int .i64 v.2.2.2.1), (.int .i64 v.2.2.2.2.1), (.int .i64 v.2.2.2.2.2.1), (.int .i64 v.2.2.2.2.2.2.1), (.bool v.2.2.2.2.2.2.2.1)]), (.fam 86 (Cd.pair (Cd.int .i64) (Cd.pair (Cd.int .i64) (Cd.pair (Cd.int .i64) Cd.bool))) v.2.2.2.2.2.2.2.2.1 v.2.2.2.2.2.2.2.2.2)]) (S.q_rm l f lo len rw rg rn nw ov t) :=
  (S.rm_v l f lo len rw rg rn nw ov t k).trans (by rw [S.q_rm_eq])
noncomputable def Z_rm1 : {f : ∀ (rw rg rn nw : Int) (ov : Bool) (t : Int), Option (Int × Int × Int × Int × Int × Bool) // f = fun (rw rg rn nw : Int) (ov : Bool) (t : Int) => S.rm1 rw rg rn nw ov t} := Classical.choice ⟨⟨_, rfl⟩⟩
noncomputable def S.q_rm1 (rw rg rn nw : Int) (ov : Bool) (t : Int) : Option (Int × Int × Int × Int × Int × Bool) := Z_rm1.1 rw rg rn nw ov t
theorem S.q_rm1_eq (rw rg rn nw : Int) (ov : Bool) (t : Int) : S.q_rm1 rw rg rn nw ov t = S.rm1 rw rg rn nw ov t := by unfold S.q_rm1; rw [Z_rm1.2]
theorem S.q_rm1_v {R : Type} (rw rg rn nw : Int) (ov : Bool) (t : Int) (k : AVal → List Blk → Option R) : fnEval tis F26 0 G25 Try.f26 [.ptr 0 0 0, .int .i64 t] [.var [.nils, .int .i64 rw, .int .i64 rg, .int .i64 rn, .int .i64 nw, .bool ov]] k = oK (fun v : Int × Int × Int × Int × Int × Bool => k (.int .i64 v.1) [(.var [.nils, (.int .i64 v.2.1), (.int .i64 v.2.2.1), (.int .i64 v.2.2.2.1), (.int .i64 v.2.2.2.2.1), (.bool v.2.2.2.2.2)])]) (S.q_rm1 rw rg rn nw ov t) :=
  (S.rm1_v rw rg rn nw ov t k).trans (by rw [S.q_rm1_eq])
noncomputable def Z_rm2 : {f : ∀ (t : Int), Int // f = fun (t : Int) => S.rm2 t} := Classical.choice ⟨⟨_, rfl⟩⟩
noncomputable def S.q_rm2 (t : Int) : Int := Z_rm2.1 t
theorem S.q_rm2_eq (t : Int) : S.q_rm2 t = S.rm2 t := by unfold S.q_rm2; rw [Z_rm2.2]
theorem S.q_rm2_v {R : Type} (t : Int) (k : AVal → List Blk → Option R) : fnEval tis F26 0 G25 Try.f26 [.nilp, .int .i64 t] [] k = k (.int .i64 (S.q_rm2 t)) [] :=
  (S.rm2_v t k).trans (by rw [S.q_rm2_eq])
noncomputable def H26s : Hnd := fun R args σ k => match args, σ with
  | [.ptr 0 0 0, .int .i64 t], [.var [.slice 1 1 lo len none, .int .i64 rw, .int .i64 rg, .int .i64 rn, .int .i64 nw, .bool ov], .fam 86 (.pair (.int .i64) (.pair (.int .i64) (.pair (.int .i64) .bool))) l f] => oK (fun v : Int × Nat × Nat × Int × Int × Int × Int × Bool × List (Option Nat) × List (Int × Int × Int × Bool) => k (.int .i64 v.1) [(.var [(.slice 1 1 v.2.1 v.2.2.1 none), (.int .i64 v.2.2.2.1), (.int .i64 v.2.2.2.2.1), (.int .i64 v.2.2.2.2.2.1), (.int .i64 v.2.2.2.2.2.2.1), (.bool v.2.2.2.2.2.2.2.1)]), (.fam 86 (Cd.pair (Cd.int .i64) (Cd.pair (Cd.int .i64) (Cd.pair (Cd.int .i64) Cd.bool))) v.2.2.2.2.2.2.2.2.1 v.2.2.2.2.2.2.2.2.2)]) (S.q_rm l f lo len rw rg rn nw ov t)
  | [.ptr 0 0 0, .int .i64 t], [.var [.nils, .int .i64 rw, .int .i64 rg, .int .i64 rn, .int .i64 nw, .bool ov]] => oK (fun v : Int × Int × Int × Int × Int × Bool => k (.int .i64 v.1) [(.var [.nils, (.int .i64 v.2.1), (.int .i64 v.2.2.1), (.int .i64 v.2.2.2.1), (.int .i64 v.2.2.2.2.1), (.bool v.2.2.2.2.2)])]) (S.q_rm1 rw rg rn nw ov t)
  | [.nilp, .int .i64 t], [] => k (.int .i64 (S.q_rm2 t)) []
  | _, _ => none
theorem H26s_ok : HndOk Try.prog 26 H26s := hnd_ok tis tisOk mixOk G25_ok F26 Try.func26 rfl (by
  intro R args σ k r h
  unfold H26s at h
  split at h
  · rename_i t lo len rw rg rn nw ov l f; exact ⟨0, (S.q_rm_v l f lo len rw rg rn nw ov t _).trans h⟩
  · rename_i t rw rg rn nw ov; exact ⟨0, (S.q_rm1_v rw rg rn nw ov t _).trans h⟩
  · rename_i t; exact ⟨0, (S.q_rm2_v t _).trans h⟩
  · cases h)
noncomputable def G26s : Env := Env.add 26 H26s G25s
theorem G26s_ok : EnvOk Try.prog G26s := envAdd_ok H26s_ok G25s_ok
noncomputable def Z_psum : {f : ∀ (fu : Nat) (l : RL) (lo len : Nat) (ro : Bool) (w g t : Int), Option (Int × Int) // f = fun (fu : Nat) (l : RL) (lo len : Nat) (ro : Bool) (w g t : Int) => S.psum fu l lo len ro w g t} := Classical.choice ⟨⟨_, rfl⟩⟩
noncomputable def S.q_psum (fu : Nat) (l : RL) (lo len : Nat) (ro : Bool) (w g t : Int) : Option (Int × Int) := Z_psum.1 fu l lo len ro w g t
theorem S.q_psum_eq (fu : Nat) (l : RL) (lo len : Nat) (ro : Bool) (w g t : Int) : S.q_psum fu l lo len ro w g t = S.psum fu l lo len ro w g t := by unfold S.q_psum; rw [Z_psum.2]
theorem S.q_psum_v {R : Type} (fu : Nat) (l : RL) (lo len : Nat) (ro : Bool) (w g t : Int) (k : AVal → List Blk → Option R) : fnEval tis F15 fu G21 Try.f15 [.slice 2 0 lo len none, .int .i64 w, .int .i64 g, .int .i64 t] [.rows (.pair (.int .i64) (.int .i64)) l ro] k = oK (fun v : Int × Int => k (.tuple [(.int .i64 v.1), (.int .i64 v.2)]) [.rows (.pair (.int .i64) (.int .i64)) l ro]) (S.q_psum fu l lo len ro w g t) :=
  (S.psum_v fu l lo len ro w g t k).trans (by rw [S.q_psum_eq])
noncomputable def Z_psum1 : {f : ∀ (fu : Nat) (w g t : Int), Option (Int × Int) // f = fun (fu : Nat) (w g t : Int) => S.psum1 fu w g t} := Classical.choice ⟨⟨_, rfl⟩⟩
noncomputable def S.q_psum1 (fu : Nat) (w g t : Int) : Option (Int × Int) := Z_psum1.1 fu w g t
theorem S.q_psum1_eq (fu : Nat) (w g t : Int) : S.q_psum1 fu w g t = S.psum1 fu w g t := by unfold S.q_psum1; rw [Z_psum1.2]
theorem S.q_psum1_v {R : Type} (fu : Nat) (w g t : Int) (k : AVal → List Blk → Option R) : fnEval tis F15 fu G21 Try.f15 [.nils, .int .i64 w, .int .i64 g, .int .i64 t] [] k = oK (fun v : Int × Int => k (.tuple [(.int .i64 v.1), (.int .i64 v.2)]) []) (S.q_psum1 fu w g t) :=
  (S.psum1_v fu w g t k).trans (by rw [S.q_psum1_eq])
noncomputable def H15s : Hnd := fun R args σ k => match args, σ with
  | [.slice 2 0 lo len none, .int .i64 w, .int .i64 g, .int .i64 t], [.rows (.pair (.int .i64) (.int .i64)) l ro] => oK (fun v : Int × Int => k (.tuple [(.int .i64 v.1), (.int .i64 v.2)]) []) (S.q_psum 100000 l lo len ro w g t)
  | [.nils, .int .i64 w, .int .i64 g, .int .i64 t], [] => oK (fun v : Int × Int => k (.tuple [(.int .i64 v.1), (.int .i64 v.2)]) []) (S.q_psum1 100000 w g t)
  | _, _ => none
theorem H15s_ok : HndOk Try.prog 15 H15s := hnd_ok_pure tis tisOk mixOk G21_ok F15 Try.func15 rfl (by
  intro R args σ k r h
  unfold H15s at h
  split at h
  · rename_i lo len w g t l ro; exact ⟨100000, (S.q_psum_v 100000 l lo len ro w g t _).trans ((congrArg (fun g9 => oK g9 (S.q_psum 100000 l lo len ro w g t)) (funext fun v => if_pos rfl)).trans h)⟩
  · rename_i w g t; exact ⟨100000, (S.q_psum1_v 100000 w g t _).trans ((congrArg (fun g9 => oK g9 (S.q_psum1 100000 w g t)) (funext fun v => if_pos rfl)).trans h)⟩
  · cases h)
noncomputable def G15s : Env := Env.add 15 H15s G26s
theorem G15s_ok : EnvOk Try.prog G15s := envAdd_ok H15s_ok G26s_ok
noncomputable def Z_pmean : {f : ∀ (l : RL) (lo len : Nat) (ro : Bool) (w g t : Int), Option (Int) // f = fun (l : RL) (lo len : Nat) (ro : Bool) (w g t : Int) => S.pmean l lo len ro w g t} := Classical.choice ⟨⟨_, rfl⟩⟩
noncomputable def S.q_pmean (l : RL) (lo len : Nat) (ro : Bool) (w g t : Int) : Option (Int) := Z_pmean.1 l lo len ro w g t
theorem S.q_pmean_eq (l : RL) (lo len : Nat) (ro : Bool) (w g t : Int) : S.q_pmean l lo len ro w g t = S.pmean l lo len ro w g t := by unfold S.q_pmean; rw [Z_pmean.2]
theorem S.q_pmean_v {R : Type} (l : RL) (lo len : Nat) (ro : Bool) (w g t : Int) (k : AVal → List Blk → Option R) : fnEval tis F18 0 G15 Try.f18 [.slice 2 0 lo len none, .int .i64 w, .int .i64 g, .int .i64 t] [.rows (.pair (.int .i64) (.int .i64)) l ro] k = oK (fun v : Int => k (.int .i64 v) [.rows (.pair (.int .i64) (.int .i64)) l ro]) (S.q_pmean l lo len ro w g t) :=
  (S.pmean_v l lo len ro w g t k).trans (by rw [S.q_pmean_eq])
noncomputable def H18s : Hnd := fun R args σ k => match args, σ with
  | [.slice 2 0 lo len none, .int .i64 w, .int .i64 g, .int .i64 t], [.rows (.pair (.int .i64) (.int .i64)) l ro] => oK (fun v : Int => k (.int .i64 v) []) (S.q_pmean l lo len ro w g t)
  | _, _ => none
theorem H18s_ok : HndOk Try.prog 18 H18s := hnd_ok_pure tis tisOk mixOk G15_ok F18 Try.func18 rfl (by
  intro R args σ k r h
  unfold H18s at h
  split at h
  · rename_i lo len w g t l ro; exact ⟨0, (S.q_pmean_v l lo len ro w g t _).trans ((congrArg (fun g9 => oK g9 (S.q_pmean l lo len ro w g t)) (funext fun v => if_pos rfl)).trans h)⟩
  · cases h)
noncomputable def G18s : Env := Env.add 18 H18s G15s
theorem G18s_ok : EnvOk Try.prog G18s := envAdd_ok H18s_ok G15s_ok
end Go.Proofs.Ytfoaihjkmfhaoaa.AB
