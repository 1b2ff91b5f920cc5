/- Rings, shut. -/
import Derived.Test.YtmgnfjiogfcieaaStold5
namespace Go.Proofs.Ytmgnfjiogfcieaa.AB
set_option linter.unusedVariables false
noncomputable def Z_pring : {f : ∀ (w g : Int), Option ((Unit) ⊕ (Int × Int × Int)) // f = fun (w g : Int) => S.pring w g} := Classical.choice ⟨⟨_, rfl⟩⟩
noncomputable def S.q_pring (w g : Int) : Option ((Unit) ⊕ (Int × Int × Int)) := Z_pring.1 w g
theorem S.q_pring_eq (w g : Int) : S.q_pring w g = S.pring w g := by unfold S.q_pring; rw [Z_pring.2]
theorem S.q_pring_v {R : Type} (w g : Int) (k : AVal → List Blk → Option R) : fnEval tis F11 0 G25 Try.f11 [.int .i64 w, .int .i64 g] [] k = oK (Sum.elim (fun v : Unit => k .nilp []) (fun v : Int × Int × Int => k (.ptr 0 (0) 0) [(.var [.nils, (.int .i64 v.1), (.int .i64 v.2.1), (.int .i64 v.2.2), (.int .i64 (-1)), (.bool (false))])])) (S.q_pring w g) :=
  (S.pring_v w g k).trans (by rw [S.q_pring_eq])
noncomputable def H11s : Hnd := fun R args σ k => match args, σ with
  | [.int .i64 w, .int .i64 g], [] => oK (Sum.elim (fun v : Unit => k .nilp []) (fun v : Int × Int × Int => k (.ptr 0 (0) 0) [(.var [.nils, (.int .i64 v.1), (.int .i64 v.2.1), (.int .i64 v.2.2), (.int .i64 (-1)), (.bool (false))])])) (S.q_pring w g)
  | _, _ => none
theorem H11s_ok : HndOk Try.prog 11 H11s := hnd_ok tis tisOk mixOk G25_ok F11 Try.func11 rfl (by
  intro R args σ k r h
  unfold H11s at h
  split at h
  · rename_i w g; exact ⟨0, (S.q_pring_v w g _).trans h⟩
  · cases h)
noncomputable def G11s : Env := Env.add 11 H11s G14
theorem G11s_ok : EnvOk Try.prog G11s := envAdd_ok H11s_ok G14_ok
noncomputable def Z_rp : {f : ∀ (l : FL) (f : BL) (lo len : Nat) (rw rg rn nw : Int) (ov : Bool) (t v : Int), Option (Int × Nat × Nat × Int × Int × Int × Int × Bool × List (Option Nat) × BL) // f = fun (l : FL) (f : BL) (lo len : Nat) (rw rg rn nw : Int) (ov : Bool) (t v : Int) => S.rp l f lo len rw rg rn nw ov t v} := Classical.choice ⟨⟨_, rfl⟩⟩
noncomputable def S.q_rp (l : FL) (f : BL) (lo len : Nat) (rw rg rn nw : Int) (ov : Bool) (t v : Int) : Option (Int × Nat × Nat × Int × Int × Int × Int × Bool × List (Option Nat) × BL) := Z_rp.1 l f lo len rw rg rn nw ov t v
theorem S.q_rp_eq (l : FL) (f : BL) (lo len : Nat) (rw rg rn nw : Int) (ov : Bool) (t v : Int) : S.q_rp l f lo len rw rg rn nw ov t v = S.rp l f lo len rw rg rn nw ov t v := by unfold S.q_rp; rw [Z_rp.2]
theorem S.q_rp_v {R : Type} (l : FL) (f : BL) (lo len : Nat) (rw rg rn nw : Int) (ov : Bool) (t v : Int) (k : AVal → List Blk → Option R) : fnEval tis F12 0 G26 Try.f12 [.ptr 0 0 0, .int .i64 t, .int .i64 v] [.var [.slice 1 1 lo len none, .int .i64 rw, .int .i64 rg, .int .i64 rn, .int .i64 nw, .bool ov], .fam 57 (.pair (.int .i64) (.pair (.int .i64) (.pair (.int .i64) .bool))) l f] k = oK (fun v : Int × Nat × Nat × Int × Int × Int × Int × Bool × List (Option Nat) × BL => k (.int .i64 v.1) [(.var [(.slice 1 2 v.2.1 v.2.2.1 none), (.int .i64 v.2.2.2.1), (.int .i64 v.2.2.2.2.1), (.int .i64 v.2.2.2.2.2.1), (.int .i64 v.2.2.2.2.2.2.1), (.bool v.2.2.2.2.2.2.2.1)]), .dead, (.fam 57 (Cd.pair (Cd.int .i64) (Cd.pair (Cd.int .i64) (Cd.pair (Cd.int .i64) Cd.bool))) v.2.2.2.2.2.2.2.2.1 v.2.2.2.2.2.2.2.2.2)]) (S.q_rp l f lo len rw rg rn nw ov t v) :=
  (S.rp_v l f lo len rw rg rn nw ov t v k).trans (by rw [S.q_rp_eq])
noncomputable def Z_rp1 : {f : ∀ (rw rg rn nw : Int) (ov : Bool) (t v : Int), Option (Int × Nat × Int × Int × Int × Int × Bool × List (Option Nat) × List (Int × Int × Int × Bool)) // f = fun (rw rg rn nw : Int) (ov : Bool) (t v : Int) => S.rp1 rw rg rn nw ov t v} := Classical.choice ⟨⟨_, rfl⟩⟩
noncomputable def S.q_rp1 (rw rg rn nw : Int) (ov : Bool) (t v : Int) : Option (Int × Nat × Int × Int × Int × Int × Bool × List (Option Nat) × List (Int × Int × Int × Bool)) := Z_rp1.1 rw rg rn nw ov t v
theorem S.q_rp1_eq (rw rg rn nw : Int) (ov : Bool) (t v : Int) : S.q_rp1 rw rg rn nw ov t v = S.rp1 rw rg rn nw ov t v := by unfold S.q_rp1; rw [Z_rp1.2]
theorem S.q_rp1_v {R : Type} (rw rg rn nw : Int) (ov : Bool) (t v : Int) (k : AVal → List Blk → Option R) : fnEval tis F12 0 G26 Try.f12 [.ptr 0 0 0, .int .i64 t, .int .i64 v] [.var [.nils, .int .i64 rw, .int .i64 rg, .int .i64 rn, .int .i64 nw, .bool ov]] k = oK (fun v : Int × Nat × Int × Int × Int × Int × Bool × List (Option Nat) × List (Int × Int × Int × Bool) => k (.int .i64 v.1) [(.var [(.slice 1 1 (0) v.2.1 none), (.int .i64 v.2.2.1), (.int .i64 v.2.2.2.1), (.int .i64 v.2.2.2.2.1), (.int .i64 v.2.2.2.2.2.1), (.bool v.2.2.2.2.2.2.1)]), (.fam 57 (Cd.pair (Cd.int .i64) (Cd.pair (Cd.int .i64) (Cd.pair (Cd.int .i64) Cd.bool))) v.2.2.2.2.2.2.2.1 v.2.2.2.2.2.2.2.2)]) (S.q_rp1 rw rg rn nw ov t v) :=
  (S.rp1_v rw rg rn nw ov t v k).trans (by rw [S.q_rp1_eq])
noncomputable def Z_rp2 : {f : ∀ (t v : Int), Int // f = fun (t v : Int) => S.rp2 t v} := Classical.choice ⟨⟨_, rfl⟩⟩
noncomputable def S.q_rp2 (t v : Int) : Int := Z_rp2.1 t v
theorem S.q_rp2_eq (t v : Int) : S.q_rp2 t v = S.rp2 t v := by unfold S.q_rp2; rw [Z_rp2.2]
theorem S.q_rp2_v {R : Type} (t v : Int) (k : AVal → List Blk → Option R) : fnEval tis F12 0 G26 Try.f12 [.nilp, .int .i64 t, .int .i64 v] [] k = k (.int .i64 (S.q_rp2 t v)) [] :=
  (S.rp2_v t v k).trans (by rw [S.q_rp2_eq])
noncomputable def H12s : Hnd := fun R args σ k => match args, σ with
  | [.ptr 0 0 0, .int .i64 t, .int .i64 v], [.var [.slice 1 1 lo len none, .int .i64 rw, .int .i64 rg, .int .i64 rn, .int .i64 nw, .bool ov], .fam 57 (.pair (.int .i64) (.pair (.int .i64) (.pair (.int .i64) .bool))) l f] => oK (fun v : Int × Nat × Nat × Int × Int × Int × Int × Bool × List (Option Nat) × BL => k (.int .i64 v.1) [(.var [(.slice 1 2 v.2.1 v.2.2.1 none), (.int .i64 v.2.2.2.1), (.int .i64 v.2.2.2.2.1), (.int .i64 v.2.2.2.2.2.1), (.int .i64 v.2.2.2.2.2.2.1), (.bool v.2.2.2.2.2.2.2.1)]), .dead, (.fam 57 (Cd.pair (Cd.int .i64) (Cd.pair (Cd.int .i64) (Cd.pair (Cd.int .i64) Cd.bool))) v.2.2.2.2.2.2.2.2.1 v.2.2.2.2.2.2.2.2.2)]) (S.q_rp l f lo len rw rg rn nw ov t v)
  | [.ptr 0 0 0, .int .i64 t, .int .i64 v], [.var [.nils, .int .i64 rw, .int .i64 rg, .int .i64 rn, .int .i64 nw, .bool ov]] => oK (fun v : Int × Nat × Int × Int × Int × Int × Bool × List (Option Nat) × List (Int × Int × Int × Bool) => k (.int .i64 v.1) [(.var [(.slice 1 1 (0) v.2.1 none), (.int .i64 v.2.2.1), (.int .i64 v.2.2.2.1), (.int .i64 v.2.2.2.2.1), (.int .i64 v.2.2.2.2.2.1), (.bool v.2.2.2.2.2.2.1)]), (.fam 57 (Cd.pair (Cd.int .i64) (Cd.pair (Cd.int .i64) (Cd.pair (Cd.int .i64) Cd.bool))) v.2.2.2.2.2.2.2.1 v.2.2.2.2.2.2.2.2)]) (S.q_rp1 rw rg rn nw ov t v)
  | [.nilp, .int .i64 t, .int .i64 v], [] => k (.int .i64 (S.q_rp2 t v)) []
  | _, _ => none
theorem H12s_ok : HndOk Try.prog 12 H12s := hnd_ok tis tisOk mixOk G26_ok F12 Try.func12 rfl (by
  intro R args σ k r h
  unfold H12s at h
  split at h
  · rename_i t v lo len rw rg rn nw ov l f; exact ⟨0, (S.q_rp_v l f lo len rw rg rn nw ov t v _).trans h⟩
  · rename_i t v rw rg rn nw ov; exact ⟨0, (S.q_rp1_v rw rg rn nw ov t v _).trans h⟩
  · rename_i t v; exact ⟨0, (S.q_rp2_v t v _).trans h⟩
  · cases h)
noncomputable def G12s : Env := Env.add 12 H12s G11s
theorem G12s_ok : EnvOk Try.prog G12s := envAdd_ok H12s_ok G11s_ok
noncomputable def Z_rs : {f : ∀ (fu : Nat) (l : FL) (f : BL) (lo len : Nat) (rw rg rn nw : Int) (ov : Bool) (t : Int), Option (Int × Int × Nat × Nat × Int × Int × Int × Int × Bool × List (Option Nat) × BL) // f = fun (fu : Nat) (l : FL) (f : BL) (lo len : Nat) (rw rg rn nw : Int) (ov : Bool) (t : Int) => S.rs fu l f lo len rw rg rn nw ov t} := Classical.choice ⟨⟨_, rfl⟩⟩
noncomputable def S.q_rs (fu : Nat) (l : FL) (f : BL) (lo len : Nat) (rw rg rn nw : Int) (ov : Bool) (t : Int) : Option (Int × Int × Nat × Nat × Int × Int × Int × Int × Bool × List (Option Nat) × BL) := Z_rs.1 fu l f lo len rw rg rn nw ov t
theorem S.q_rs_eq (fu : Nat) (l : FL) (f : BL) (lo len : Nat) (rw rg rn nw : Int) (ov : Bool) (t : Int) : S.q_rs fu l f lo len rw rg rn nw ov t = S.rs fu l f lo len rw rg rn nw ov t := by unfold S.q_rs; rw [Z_rs.2]
theorem S.q_rs_v {R : Type} (fu : Nat) (l : FL) (f : BL) (lo len : Nat) (rw rg rn nw : Int) (ov : Bool) (t : Int) (k : AVal → List Blk → Option R) : fnEval tis F13 fu G12 Try.f13 [.ptr 0 0 0, .int .i64 t] [.var [.slice 1 1 lo len none, .int .i64 rw, .int .i64 rg, .int .i64 rn, .int .i64 nw, .bool ov], .fam 57 (.pair (.int .i64) (.pair (.int .i64) (.pair (.int .i64) .bool))) l f] k = oK (fun v : Int × Int × Nat × Nat × Int × Int × Int × Int × Bool × List (Option Nat) × BL => k (.tuple [(.int .i64 v.1), (.int .i64 v.2.1)]) [(.var [(.slice 1 1 v.2.2.1 v.2.2.2.1 none), (.int .i64 v.2.2.2.2.1), (.int .i64 v.2.2.2.2.2.1), (.int .i64 v.2.2.2.2.2.2.1), (.int .i64 v.2.2.2.2.2.2.2.1), (.bool v.2.2.2.2.2.2.2.2.1)]), (.fam 57 (Cd.pair (Cd.int .i64) (Cd.pair (Cd.int .i64) (Cd.pair (Cd.int .i64) Cd.bool))) v.2.2.2.2.2.2.2.2.2.1 v.2.2.2.2.2.2.2.2.2.2)]) (S.q_rs fu l f lo len rw rg rn nw ov t) :=
  (S.rs_v fu l f lo len rw rg rn nw ov t k).trans (by rw [S.q_rs_eq])
noncomputable def Z_rs1 : {f : ∀ (fu : Nat) (rw rg rn nw : Int) (ov : Bool) (t : Int), Option (Int × Int × Int × Int × Int × Int × Bool) // f = fun (fu : Nat) (rw rg rn nw : Int) (ov : Bool) (t : Int) => S.rs1 fu rw rg rn nw ov t} := Classical.choice ⟨⟨_, rfl⟩⟩
noncomputable def S.q_rs1 (fu : Nat) (rw rg rn nw : Int) (ov : Bool) (t : Int) : Option (Int × Int × Int × Int × Int × Int × Bool) := Z_rs1.1 fu rw rg rn nw ov t
theorem S.q_rs1_eq (fu : Nat) (rw rg rn nw : Int) (ov : Bool) (t : Int) : S.q_rs1 fu rw rg rn nw ov t = S.rs1 fu rw rg rn nw ov t := by unfold S.q_rs1; rw [Z_rs1.2]
theorem S.q_rs1_v {R : Type} (fu : Nat) (rw rg rn nw : Int) (ov : Bool) (t : Int) (k : AVal → List Blk → Option R) : fnEval tis F13 fu G12 Try.f13 [.ptr 0 0 0, .int .i64 t] [.var [.nils, .int .i64 rw, .int .i64 rg, .int .i64 rn, .int .i64 nw, .bool ov]] k = oK (fun v : Int × Int × Int × Int × Int × Int × Bool => k (.tuple [(.int .i64 v.1), (.int .i64 v.2.1)]) [(.var [.nils, (.int .i64 v.2.2.1), (.int .i64 v.2.2.2.1), (.int .i64 v.2.2.2.2.1), (.int .i64 v.2.2.2.2.2.1), (.bool v.2.2.2.2.2.2)])]) (S.q_rs1 fu rw rg rn nw ov t) :=
  (S.rs1_v fu rw rg rn nw ov t k).trans (by rw [S.q_rs1_eq])
noncomputable def Z_rs2 : {f : ∀ (fu : Nat) (t : Int), Option (Int × Int) // f = fun (fu : Nat) (t : Int) => S.rs2 fu t} := Classical.choice ⟨⟨_, rfl⟩⟩
noncomputable def S.q_rs2 (fu : Nat) (t : Int) : Option (Int × Int) := Z_rs2.1 fu t
theorem S.q_rs2_eq (fu : Nat) (t : Int) : S.q_rs2 fu t = S.rs2 fu t := by unfold S.q_rs2; rw [Z_rs2.2]
theorem S.q_rs2_v {R : Type} (fu : Nat) (t : Int) (k : AVal → List Blk → Option R) : fnEval tis F13 fu G12 Try.f13 [.nilp, .int .i64 t] [] k = oK (fun v : Int × Int => k (.tuple [(.int .i64 v.1), (.int .i64 v.2)]) []) (S.q_rs2 fu t) :=
  (S.rs2_v fu t k).trans (by rw [S.q_rs2_eq])
noncomputable def H13s : Hnd := fun R args σ k => match args, σ with
  | [.ptr 0 0 0, .int .i64 t], [.var [.slice 1 1 lo len none, .int .i64 rw, .int .i64 rg, .int .i64 rn, .int .i64 nw, .bool ov], .fam 57 (.pair (.int .i64) (.pair (.int .i64) (.pair (.int .i64) .bool))) l f] => oK (fun v : Int × Int × Nat × Nat × Int × Int × Int × Int × Bool × List (Option Nat) × BL => k (.tuple [(.int .i64 v.1), (.int .i64 v.2.1)]) [(.var [(.slice 1 1 v.2.2.1 v.2.2.2.1 none), (.int .i64 v.2.2.2.2.1), (.int .i64 v.2.2.2.2.2.1), (.int .i64 v.2.2.2.2.2.2.1), (.int .i64 v.2.2.2.2.2.2.2.1), (.bool v.2.2.2.2.2.2.2.2.1)]), (.fam 57 (Cd.pair (Cd.int .i64) (Cd.pair (Cd.int .i64) (Cd.pair (Cd.int .i64) Cd.bool))) v.2.2.2.2.2.2.2.2.2.1 v.2.2.2.2.2.2.2.2.2.2)]) (S.q_rs 100000 l f lo len rw rg rn nw ov t)
  | [.ptr 0 0 0, .int .i64 t], [.var [.nils, .int .i64 rw, .int .i64 rg, .int .i64 rn, .int .i64 nw, .bool ov]] => oK (fun v : Int × Int × Int × Int × Int × Int × Bool => k (.tuple [(.int .i64 v.1), (.int .i64 v.2.1)]) [(.var [.nils, (.int .i64 v.2.2.1), (.int .i64 v.2.2.2.1), (.int .i64 v.2.2.2.2.1), (.int .i64 v.2.2.2.2.2.1), (.bool v.2.2.2.2.2.2)])]) (S.q_rs1 100000 rw rg rn nw ov t)
  | [.nilp, .int .i64 t], [] => oK (fun v : Int × Int => k (.tuple [(.int .i64 v.1), (.int .i64 v.2)]) []) (S.q_rs2 100000 t)
  | _, _ => none
theorem H13s_ok : HndOk Try.prog 13 H13s := hnd_ok tis tisOk mixOk G12_ok F13 Try.func13 rfl (by
  intro R args σ k r h
  unfold H13s at h
  split at h
  · rename_i t lo len rw rg rn nw ov l f; exact ⟨100000, (S.q_rs_v 100000 l f lo len rw rg rn nw ov t _).trans h⟩
  · rename_i t rw rg rn nw ov; exact ⟨100000, (S.q_rs1_v 100000 rw rg rn nw ov t _).trans h⟩
  · rename_i t; exact ⟨100000, (S.q_rs2_v 100000 t _).trans h⟩
  · cases h)
noncomputable def G13s : Env := Env.add 13 H13s G12s
theorem G13s_ok : EnvOk Try.prog G13s := envAdd_ok H13s_ok G12s_ok
noncomputable def Z_rm : {f : ∀ (l : FL) (f : BL) (lo len : Nat) (rw rg rn nw : Int) (ov : Bool) (t : Int), Option (Int × Nat × Nat × Int × Int × Int × Int × Bool × List (Option Nat) × List (Int × Int × Int × Bool)) // f = fun (l : FL) (f : BL) (lo len : Nat) (rw rg rn nw : Int) (ov : Bool) (t : Int) => S.rm l f lo len rw rg rn nw ov t} := Classical.choice ⟨⟨_, rfl⟩⟩
noncomputable def S.q_rm (l : FL) (f : BL) (lo len : Nat) (rw rg rn nw : Int) (ov : Bool) (t : Int) : Option (Int × Nat × Nat × Int × Int × Int × Int × Bool × List (Option Nat) × List (Int × Int × Int × Bool)) := Z_rm.1 l f lo len rw rg rn nw ov t
theorem S.q_rm_eq (l : FL) (f : BL) (lo len : Nat) (rw rg rn nw : Int) (ov : Bool) (t : Int) : S.q_rm l f lo len rw rg rn nw ov t = S.rm l f lo len rw rg rn nw ov t := by unfold S.q_rm; rw [Z_rm.2]
theorem S.q_rm_v {R : Type} (l : FL) (f : BL) (lo len : Nat) (rw rg rn nw : Int) (ov : Bool) (t : Int) (k : AVal → List Blk → Option R) : fnEval tis F18 0 G13 Try.f18 [.ptr 0 0 0, .int .i64 t] [.var [.slice 1 1 lo len none, .int .i64 rw, .int .i64 rg, .int .i64 rn, .int .i64 nw, .bool ov], .fam 57 (.pair (.int .i64) (.pair (.int .i64) (.pair (.int .i64) .bool))) l f] k = oK (fun v : Int × Nat × Nat × Int × Int × Int × Int × Bool × List (Option Nat) × List (Int × Int × Int × Bool) => k (.int .i64 v.1) [(.var [(.slice 1 1 v.2.1 v.2.2.1 none), (.int .i64 v.2.2.2.1), (.int .i64 v.2.2.2.2.1), (.int .i64 v.2.2.2.2.2.1), (.int .i64 v.2.2.2.2.2.2.1), (.bool v.2.2.2.2.2.2.2.1)]), (.fam 57 (Cd.pair (Cd.int .i64) (Cd.pair (Cd.int .i64) (Cd.pair (Cd.int .i64) Cd.bool))) v.2.2.2.2.2.2.2.2.1 v.2.2.2.2.2.2.2.2.2)]) (S.q_rm l f lo len rw rg rn nw ov t) :=
  (S.rm_v l f lo len rw rg rn nw ov t k).trans (by rw [S.q_rm_eq])
noncomputable def Z_rm1 : {f : ∀ (rw rg rn nw : Int) (ov : Bool) (t : Int), Option (Int × Int × Int × Int × Int × Bool) // f = fun (rw rg rn nw : Int) (ov : Bool) (t : Int) => S.rm1 rw rg rn nw ov t} := Classical.choice ⟨⟨_, rfl⟩⟩
noncomputable def S.q_rm1 (rw rg rn nw : Int) (ov : Bool) (t : Int) : Option (Int × Int × Int × Int × Int × Bool) := Z_rm1.1 rw rg rn nw ov t
theorem S.q_rm1_eq (rw rg rn nw : Int) (ov : Bool) (t : Int) : S.q_rm1 rw rg rn nw ov t = S.rm1 rw rg rn nw ov t := by unfold S.q_rm1; rw [Z_rm1.2]
theorem S.q_rm1_v {R : Type} (rw rg rn nw : Int) (ov : Bool) (t : Int) (k : AVal → List Blk → Option R) : fnEval tis F18 0 G13 Try.f18 [.ptr 0 0 0, .int .i64 t] [.var [.nils, .int .i64 rw, .int .i64 rg, .int .i64 rn, .int .i64 nw, .bool ov]] k = oK (fun v : Int × Int × Int × Int × Int × Bool => k (.int .i64 v.1) [(.var [.nils, (.int .i64 v.2.1), (.int .i64 v.2.2.1), (.int .i64 v.2.2.2.1), (.int .i64 v.2.2.2.2.1), (.bool v.2.2.2.2.2)])]) (S.q_rm1 rw rg rn nw ov t) :=
  (S.rm1_v rw rg rn nw ov t k).trans (by rw [S.q_rm1_eq])
noncomputable def Z_rm2 : {f : ∀ (t : Int), Int // f = fun (t : Int) => S.rm2 t} := Classical.choice ⟨⟨_, rfl⟩⟩
noncomputable def S.q_rm2 (t : Int) : Int := Z_rm2.1 t
theorem S.q_rm2_eq (t : Int) : S.q_rm2 t = S.rm2 t := by unfold S.q_rm2; rw [Z_rm2.2]
theorem S.q_rm2_v {R : Type} (t : Int) (k : AVal → List Blk → Option R) : fnEval tis F18 0 G13 Try.f18 [.nilp, .int .i64 t] [] k = k (.int .i64 (S.q_rm2 t)) [] :=
  (S.rm2_v t k).trans (by rw [S.q_rm2_eq])
noncomputable def H18s : Hnd := fun R args σ k => match args, σ with
  | [.ptr 0 0 0, .int .i64 t], [.var [.slice 1 1 lo len none, .int .i64 rw, .int .i64 rg, .int .i64 rn, .int .i64 nw, .bool ov], .fam 57 (.pair (.int .i64) (.pair (.int .i64) (.pair (.int .i64) .bool))) l f] => oK (fun v : Int × Nat × Nat × Int × Int × Int × Int × Bool × List (Option Nat) × List (Int × Int × Int × Bool) => k (.int .i64 v.1) [(.var [(.slice 1 1 v.2.1 v.2.2.1 none), (.int .i64 v.2.2.2.1), (.int .i64 v.2.2.2.2.1), (.int .i64 v.2.2.2.2.2.1), (.int .i64 v.2.2.2.2.2.2.1), (.bool v.2.2.2.2.2.2.2.1)]), (.fam 57 (Cd.pair (Cd.int .i64) (Cd.pair (Cd.int .i64) (Cd.pair (Cd.int .i64) Cd.bool))) v.2.2.2.2.2.2.2.2.1 v.2.2.2.2.2.2.2.2.2)]) (S.q_rm l f lo len rw rg rn nw ov t)
  | [.ptr 0 0 0, .int .i64 t], [.var [.nils, .int .i64 rw, .int .i64 rg, .int .i64 rn, .int .i64 nw, .bool ov]] => oK (fun v : Int × Int × Int × Int × Int × Bool => k (.int .i64 v.1) [(.var [.nils, (.int .i64 v.2.1), (.int .i64 v.2.2.1), (.int .i64 v.2.2.2.1), (.int .i64 v.2.2.2.2.1), (.bool v.2.2.2.2.2)])]) (S.q_rm1 rw rg rn nw ov t)
  | [.nilp, .int .i64 t], [] => k (.int .i64 (S.q_rm2 t)) []
  | _, _ => none
theorem H18s_ok : HndOk Try.prog 18 H18s := hnd_ok tis tisOk mixOk G13_ok F18 Try.func18 rfl (by
  intro R args σ k r h
  unfold H18s at h
  split at h
  · rename_i t lo len rw rg rn nw ov l f; exact ⟨0, (S.q_rm_v l f lo len rw rg rn nw ov t _).trans h⟩
  · rename_i t rw rg rn nw ov; exact ⟨0, (S.q_rm1_v rw rg rn nw ov t _).trans h⟩
  · rename_i t; exact ⟨0, (S.q_rm2_v t _).trans h⟩
  · cases h)
noncomputable def G18s : Env := Env.add 18 H18s G13s
theorem G18s_ok : EnvOk Try.prog G18s := envAdd_ok H18s_ok G13s_ok
noncomputable def Z_rr : {f : ∀ (l : FL) (f : BL) (lo len : Nat) (rw rg rn nw : Int) (ov : Bool) (w : Int), Option (Int × Nat × Nat × Int × Int × Int × Int × Bool × List (Option Nat) × BL) // f = fun (l : FL) (f : BL) (lo len : Nat) (rw rg rn nw : Int) (ov : Bool) (w : Int) => S.rr l f lo len rw rg rn nw ov w} := Classical.choice ⟨⟨_, rfl⟩⟩
noncomputable def S.q_rr (l : FL) (f : BL) (lo len : Nat) (rw rg rn nw : Int) (ov : Bool) (w : Int) : Option (Int × Nat × Nat × Int × Int × Int × Int × Bool × List (Option Nat) × BL) := Z_rr.1 l f lo len rw rg rn nw ov w
theorem S.q_rr_eq (l : FL) (f : BL) (lo len : Nat) (rw rg rn nw : Int) (ov : Bool) (w : Int) : S.q_rr l f lo len rw rg rn nw ov w = S.rr l f lo len rw rg rn nw ov w := by unfold S.q_rr; rw [Z_rr.2]
theorem S.q_rr_v {R : Type} (l : FL) (f : BL) (lo len : Nat) (rw rg rn nw : Int) (ov : Bool) (w : Int) (k : AVal → List Blk → Option R) : fnEval tis F20 0 G18 Try.f20 [.ptr 0 0 0, .int .i64 w] [.var [.slice 1 1 lo len none, .int .i64 rw, .int .i64 rg, .int .i64 rn, .int .i64 nw, .bool ov], .fam 57 (.pair (.int .i64) (.pair (.int .i64) (.pair (.int .i64) .bool))) l f] k = oK (fun v : Int × Nat × Nat × Int × Int × Int × Int × Bool × List (Option Nat) × BL => k (.int .i64 v.1) [(.var [(.slice 1 1 v.2.1 v.2.2.1 none), (.int .i64 v.2.2.2.1), (.int .i64 v.2.2.2.2.1), (.int .i64 v.2.2.2.2.2.1), (.int .i64 v.2.2.2.2.2.2.1), (.bool v.2.2.2.2.2.2.2.1)]), (.fam 57 (Cd.pair (Cd.int .i64) (Cd.pair (Cd.int .i64) (Cd.pair (Cd.int .i64) Cd.bool))) v.2.2.2.2.2.2.2.2.1 v.2.2.2.2.2.2.2.2.2)]) (S.q_rr l f lo len rw rg rn nw ov w) :=
  (S.rr_v l f lo len rw rg rn nw ov w k).trans (by rw [S.q_rr_eq])
noncomputable def Z_rr1 : {f : ∀ (rw rg rn nw : Int) (ov : Bool) (w : Int), Option (Int × Int × Int × Int × Int × Bool) // f = fun (rw rg rn nw : Int) (ov : Bool) (w : Int) => S.rr1 rw rg rn nw ov w} := Classical.choice ⟨⟨_, rfl⟩⟩
noncomputable def S.q_rr1 (rw rg rn nw : Int) (ov : Bool) (w : Int) : Option (Int × Int × Int × Int × Int × Bool) := Z_rr1.1 rw rg rn nw ov w
theorem S.q_rr1_eq (rw rg rn nw : Int) (ov : Bool) (w : Int) : S.q_rr1 rw rg rn nw ov w = S.rr1 rw rg rn nw ov w := by unfold S.q_rr1; rw [Z_rr1.2]
theorem S.q_rr1_v {R : Type} (rw rg rn nw : Int) (ov : Bool) (w : Int) (k : AVal → List Blk → Option R) : fnEval tis F20 0 G18 Try.f20 [.ptr 0 0 0, .int .i64 w] [.var [.nils, .int .i64 rw, .int .i64 rg, .int .i64 rn, .int .i64 nw, .bool ov]] k = oK (fun v : Int × Int × Int × Int × Int × Bool => k (.int .i64 v.1) [(.var [.nils, (.int .i64 v.2.1), (.int .i64 v.2.2.1), (.int .i64 v.2.2.2.1), (.int .i64 v.2.2.2.2.1), (.bool v.2.2.2.2.2)])]) (S.q_rr1 rw rg rn nw ov w) :=
  (S.rr1_v rw rg rn nw ov w k).trans (by rw [S.q_rr1_eq])
noncomputable def Z_rr2 : {f : ∀ (w : Int), Int // f = fun (w : Int) => S.rr2 w} := Classical.choice ⟨⟨_, rfl⟩⟩
noncomputable def S.q_rr2 (w : Int) : Int := Z_rr2.1 w
theorem S.q_rr2_eq (w : Int) : S.q_rr2 w = S.rr2 w := by unfold S.q_rr2; rw [Z_rr2.2]
theorem S.q_rr2_v {R : Type} (w : Int) (k : AVal → List Blk → Option R) : fnEval tis F20 0 G18 Try.f20 [.nilp, .int .i64 w] [] k = k (.int .i64 (S.q_rr2 w)) [] :=
  (S.rr2_v w k).trans (by rw [S.q_rr2_eq])
noncomputable def H20s : Hnd := fun R args σ k => match args, σ with
  | [.ptr 0 0 0, .int .i64 w], [.var [.slice 1 1 lo len none, .int .i64 rw, .int .i64 rg, .int .i64 rn, .int .i64 nw, .bool ov], .fam 57 (.pair (.int .i64) (.pair (.int .i64) (.pair (.int .i64) .bool))) l f] => oK (fun v : Int × Nat × Nat × Int × Int × Int × Int × Bool × List (Option Nat) × BL => k (.int .i64 v.1) [(.var [(.slice 1 1 v.2.1 v.2.2.1 none), (.int .i64 v.2.2.2.1), (.int .i64 v.2.2.2.2.1), (.int .i64 v.2.2.2.2.2.1), (.int .i64 v.2.2.2.2.2.2.1), (.bool v.2.2.2.2.2.2.2.1)]), (.fam 57 (Cd.pair (Cd.int .i64) (Cd.pair (Cd.int .i64) (Cd.pair (Cd.int .i64) Cd.bool))) v.2.2.2.2.2.2.2.2.1 v.2.2.2.2.2.2.2.2.2)]) (S.q_rr l f lo len rw rg rn nw ov w)
  | [.ptr 0 0 0, .int .i64 w], [.var [.nils, .int .i64 rw, .int .i64 rg, .int .i64 rn, .int .i64 nw, .bool ov]] => oK (fun v : Int × Int × Int × Int × Int × Bool => k (.int .i64 v.1) [(.var [.nils, (.int .i64 v.2.1), (.int .i64 v.2.2.1), (.int .i64 v.2.2.2.1), (.int .i64 v.2.2.2.2.1), (.bool v.2.2.2.2.2)])]) (S.q_rr1 rw rg rn nw ov w)
  | [.nilp, .int .i64 w], [] => k (.int .i64 (S.q_rr2 w)) []
  | _, _ => none
theorem H20s_ok : HndOk Try.prog 20 H20s := hnd_ok tis tisOk mixOk G18_ok F20 Try.func20 rfl (by
  intro R args σ k r h
  unfold H20s at h
  split at h
  · rename_i w lo len rw rg rn nw ov l f; exact ⟨0, (S.q_rr_v l f lo len rw rg rn nw ov w _).trans h⟩
  · rename_i w rw rg rn nw ov; exact ⟨0, (S.q_rr1_v rw rg rn nw ov w _).trans h⟩
  · rename_i w; exact ⟨0, (S.q_rr2_v w _).trans h⟩
  · cases h)
noncomputable def G20s : Env := Env.add 20 H20s G18s
theorem G20s_ok : EnvOk Try.prog G20s := envAdd_ok H20s_ok G18s_ok
noncomputable def Z_rnewring : {f : ∀ (w g : Int), (Unit) ⊕ (Int × Int) // f = fun (w g : Int) => S.rnewring w g} := Classical.choice ⟨⟨_, rfl⟩⟩
noncomputable def S.q_rnewring (w g : Int) : (Unit) ⊕ (Int × Int) := Z_rnewring.1 w g
theorem S.q_rnewring_eq (w g : Int) : S.q_rnewring w g = S.rnewring w g := by unfold S.q_rnewring; rw [Z_rnewring.2]
theorem S.q_rnewring_v {R : Type} (w g : Int) (k : AVal → List Blk → Option R) : fnEval tis F15 0 G32 Try.f15 [.int .i64 w, .int .i64 g] [] k = (Sum.elim (fun v : Unit => k .nilp []) (fun v : Int × Int => k (.ptr 0 (0) 0) [(.var [(.int .i64 v.1), (.int .i64 v.2), .nils, (.int .i64 (-1)), (.bool (false))])])) (S.q_rnewring w g) :=
  (S.rnewring_v w g k).trans (by rw [S.q_rnewring_eq])
noncomputable def H15s : Hnd := fun R args σ k => match args, σ with
  | [.int .i64 w, .int .i64 g], [] => (Sum.elim (fun v : Unit => k .nilp []) (fun v : Int × Int => k (.ptr 0 (0) 0) [(.var [(.int .i64 v.1), (.int .i64 v.2), .nils, (.int .i64 (-1)), (.bool (false))])])) (S.q_rnewring w g)
  | _, _ => none
theorem H15s_ok : HndOk Try.prog 15 H15s := hnd_ok tis tisOk mixOk G32_ok F15 Try.func15 rfl (by
  intro R args σ k r h
  unfold H15s at h
  split at h
  · rename_i w g; exact ⟨0, (S.q_rnewring_v w g _).trans h⟩
  · cases h)
noncomputable def G15s : Env := Env.add 15 H15s G20s
theorem G15s_ok : EnvOk Try.prog G15s := envAdd_ok H15s_ok G20s_ok
noncomputable def Z_rput : {f : ∀ (r : RL) (lo len : Nat) (rw rg nw : Int) (ov : Bool) (t v : Int), Option (Int × Int × Int × Nat × Nat × Int × Bool × RL) // f = fun (r : RL) (lo len : Nat) (rw rg nw : Int) (ov : Bool) (t v : Int) => S.rput r lo len rw rg nw ov t v} := Classical.choice ⟨⟨_, rfl⟩⟩
noncomputable def S.q_rput (r : RL) (lo len : Nat) (rw rg nw : Int) (ov : Bool) (t v : Int) : Option (Int × Int × Int × Nat × Nat × Int × Bool × RL) := Z_rput.1 r lo len rw rg nw ov t v
theorem S.q_rput_eq (r : RL) (lo len : Nat) (rw rg nw : Int) (ov : Bool) (t v : Int) : S.q_rput r lo len rw rg nw ov t v = S.rput r lo len rw rg nw ov t v := by unfold S.q_rput; rw [Z_rput.2]
theorem S.q_rput_v {R : Type} (r : RL) (lo len : Nat) (rw rg nw : Int) (ov : Bool) (t v : Int) (k : AVal → List Blk → Option R) : fnEval tis F16 0 G31 Try.f16 [.ptr 0 0 0, .int .i64 t, .int .i64 v] [.var [.int .i64 rw, .int .i64 rg, .slice 2 1 lo len none, .int .i64 nw, .bool ov], .rows (.pair (.int .i64) (.int .i64)) r false] k = oK (fun v : Int × Int × Int × Nat × Nat × Int × Bool × RL => k (.int .i64 v.1) [(.var [(.int .i64 v.2.1), (.int .i64 v.2.2.1), (.slice 2 2 v.2.2.2.1 v.2.2.2.2.1 none), (.int .i64 v.2.2.2.2.2.1), (.bool v.2.2.2.2.2.2.1)]), .dead, (.rows (Cd.pair (Cd.int .i64) (Cd.int .i64)) v.2.2.2.2.2.2.2 false)]) (S.q_rput r lo len rw rg nw ov t v) :=
  (S.rput_v r lo len rw rg nw ov t v k).trans (by rw [S.q_rput_eq])
noncomputable def Z_rput1 : {f : ∀ (rw rg nw : Int) (ov : Bool) (t v : Int), Option (Int × Int × Int × Nat × Int × Bool × List (Int × Int)) // f = fun (rw rg nw : Int) (ov : Bool) (t v : Int) => S.rput1 rw rg nw ov t v} := Classical.choice ⟨⟨_, rfl⟩⟩
noncomputable def S.q_rput1 (rw rg nw : Int) (ov : Bool) (t v : Int) : Option (Int × Int × Int × Nat × Int × Bool × List (Int × Int)) := Z_rput1.1 rw rg nw ov t v
theorem S.q_rput1_eq (rw rg nw : Int) (ov : Bool) (t v : Int) : S.q_rput1 rw rg nw ov t v = S.rput1 rw rg nw ov t v := by unfold S.q_rput1; rw [Z_rput1.2]
theorem S.q_rput1_v {R : Type} (rw rg nw : Int) (ov : Bool) (t v : Int) (k : AVal → List Blk → Option R) : fnEval tis F16 0 G31 Try.f16 [.ptr 0 0 0, .int .i64 t, .int .i64 v] [.var [.int .i64 rw, .int .i64 rg, .nils, .int .i64 nw, .bool ov]] k = oK (fun v : Int × Int × Int × Nat × Int × Bool × List (Int × Int) => k (.int .i64 v.1) [(.var [(.int .i64 v.2.1), (.int .i64 v.2.2.1), (.slice 2 1 (0) v.2.2.2.1 none), (.int .i64 v.2.2.2.2.1), (.bool v.2.2.2.2.2.1)]), (.rows (Cd.pair (Cd.int .i64) (Cd.int .i64)) v.2.2.2.2.2.2 false)]) (S.q_rput1 rw rg nw ov t v) :=
  (S.rput1_v rw rg nw ov t v k).trans (by rw [S.q_rput1_eq])
noncomputable def H16s : Hnd := fun R args σ k => match args, σ with
  | [.ptr 0 0 0, .int .i64 t, .int .i64 v], [.var [.int .i64 rw, .int .i64 rg, .slice 2 1 lo len none, .int .i64 nw, .bool ov], .rows (.pair (.int .i64) (.int .i64)) r false] => oK (fun v : Int × Int × Int × Nat × Nat × Int × Bool × RL => k (.int .i64 v.1) [(.var [(.int .i64 v.2.1), (.int .i64 v.2.2.1), (.slice 2 2 v.2.2.2.1 v.2.2.2.2.1 none), (.int .i64 v.2.2.2.2.2.1), (.bool v.2.2.2.2.2.2.1)]), .dead, (.rows (Cd.pair (Cd.int .i64) (Cd.int .i64)) v.2.2.2.2.2.2.2 false)]) (S.q_rput r lo len rw rg nw ov t v)
  | [.ptr 0 0 0, .int .i64 t, .int .i64 v], [.var [.int .i64 rw, .int .i64 rg, .nils, .int .i64 nw, .bool ov]] => oK (fun v : Int × Int × Int × Nat × Int × Bool × List (Int × Int) => k (.int .i64 v.1) [(.var [(.int .i64 v.2.1), (.int .i64 v.2.2.1), (.slice 2 1 (0) v.2.2.2.1 none), (.int .i64 v.2.2.2.2.1), (.bool v.2.2.2.2.2.1)]), (.rows (Cd.pair (Cd.int .i64) (Cd.int .i64)) v.2.2.2.2.2.2 false)]) (S.q_rput1 rw rg nw ov t v)
  | _, _ => none
theorem H16s_ok : HndOk Try.prog 16 H16s := hnd_ok tis tisOk mixOk G31_ok F16 Try.func16 rfl (by
  intro R args σ k r h
  unfold H16s at h
  split at h
  · rename_i t v rw rg lo len nw ov r; exact ⟨0, (S.q_rput_v r lo len rw rg nw ov t v _).trans h⟩
  · rename_i t v rw rg nw ov; exact ⟨0, (S.q_rput1_v rw rg nw ov t v _).trans h⟩
  · cases h)
noncomputable def G16s : Env := Env.add 16 H16s G15s
theorem G16s_ok : EnvOk Try.prog G16s := envAdd_ok H16s_ok G15s_ok
noncomputable def Z_rsum : {f : ∀ (fu : Nat) (r : RL) (lo len : Nat) (rw rg nw : Int) (ov : Bool) (t : Int), Option (Int × Int × Int × Int × Nat × Nat × Int × Bool × RL) // f = fun (fu : Nat) (r : RL) (lo len : Nat) (rw rg nw : Int) (ov : Bool) (t : Int) => S.rsum fu r lo len rw rg nw ov t} := Classical.choice ⟨⟨_, rfl⟩⟩
noncomputable def S.q_rsum (fu : Nat) (r : RL) (lo len : Nat) (rw rg nw : Int) (ov : Bool) (t : Int) : Option (Int × Int × Int × Int × Nat × Nat × Int × Bool × RL) := Z_rsum.1 fu r lo len rw rg nw ov t
theorem S.q_rsum_eq (fu : Nat) (r : RL) (lo len : Nat) (rw rg nw : Int) (ov : Bool) (t : Int) : S.q_rsum fu r lo len rw rg nw ov t = S.rsum fu r lo len rw rg nw ov t := by unfold S.q_rsum; rw [Z_rsum.2]
theorem S.q_rsum_v {R : Type} (fu : Nat) (r : RL) (lo len : Nat) (rw rg nw : Int) (ov : Bool) (t : Int) (k : AVal → List Blk → Option R) : fnEval tis F17 fu G16 Try.f17 [.ptr 0 0 0, .int .i64 t] [.var [.int .i64 rw, .int .i64 rg, .slice 2 1 lo len none, .int .i64 nw, .bool ov], .rows (.pair (.int .i64) (.int .i64)) r false] k = oK (fun v : Int × Int × Int × Int × Nat × Nat × Int × Bool × RL => k (.tuple [(.int .i64 v.1), (.int .i64 v.2.1)]) [(.var [(.int .i64 v.2.2.1), (.int .i64 v.2.2.2.1), (.slice 2 1 v.2.2.2.2.1 v.2.2.2.2.2.1 none), (.int .i64 v.2.2.2.2.2.2.1), (.bool v.2.2.2.2.2.2.2.1)]), (.rows (Cd.pair (Cd.int .i64) (Cd.int .i64)) v.2.2.2.2.2.2.2.2 false)]) (S.q_rsum fu r lo len rw rg nw ov t) :=
  (S.rsum_v fu r lo len rw rg nw ov t k).trans (by rw [S.q_rsum_eq])
noncomputable def Z_rsum1 : {f : ∀ (fu : Nat) (rw rg nw : Int) (ov : Bool) (t : Int), Option (Int × Int × Int × Int × Int × Bool) // f = fun (fu : Nat) (rw rg nw : Int) (ov : Bool) (t : Int) => S.rsum1 fu rw rg nw ov t} := Classical.choice ⟨⟨_, rfl⟩⟩
noncomputable def S.q_rsum1 (fu : Nat) (rw rg nw : Int) (ov : Bool) (t : Int) : Option (Int × Int × Int × Int × Int × Bool) := Z_rsum1.1 fu rw rg nw ov t
theorem S.q_rsum1_eq (fu : Nat) (rw rg nw : Int) (ov : Bool) (t : Int) : S.q_rsum1 fu rw rg nw ov t = S.rsum1 fu rw rg nw ov t := by unfold S.q_rsum1; rw [Z_rsum1.2]
theorem S.q_rsum1_v {R : Type} (fu : Nat) (rw rg nw : Int) (ov : Bool) (t : Int) (k : AVal → List Blk → Option R) : fnEval tis F17 fu G16 Try.f17 [.ptr 0 0 0, .int .i64 t] [.var [.int .i64 rw, .int .i64 rg, .nils, .int .i64 nw, .bool ov]] k = oK (fun v : Int × Int × Int × Int × Int × Bool => k (.tuple [(.int .i64 v.1), (.int .i64 v.2.1)]) [(.var [(.int .i64 v.2.2.1), (.int .i64 v.2.2.2.1), .nils, (.int .i64 v.2.2.2.2.1), (.bool v.2.2.2.2.2)])]) (S.q_rsum1 fu rw rg nw ov t) :=
  (S.rsum1_v fu rw rg nw ov t k).trans (by rw [S.q_rsum1_eq])
noncomputable def H17s : Hnd := fun R args σ k => match args, σ with
  | [.ptr 0 0 0, .int .i64 t], [.var [.int .i64 rw, .int .i64 rg, .slice 2 1 lo len none, .int .i64 nw, .bool ov], .rows (.pair (.int .i64) (.int .i64)) r false] => oK (fun v : Int × Int × Int × Int × Nat × Nat × Int × Bool × RL => k (.tuple [(.int .i64 v.1), (.int .i64 v.2.1)]) [(.var [(.int .i64 v.2.2.1), (.int .i64 v.2.2.2.1), (.slice 2 1 v.2.2.2.2.1 v.2.2.2.2.2.1 none), (.int .i64 v.2.2.2.2.2.2.1), (.bool v.2.2.2.2.2.2.2.1)]), (.rows (Cd.pair (Cd.int .i64) (Cd.int .i64)) v.2.2.2.2.2.2.2.2 false)]) (S.q_rsum 100000 r lo len rw rg nw ov t)
  | [.ptr 0 0 0, .int .i64 t], [.var [.int .i64 rw, .int .i64 rg, .nils, .int .i64 nw, .bool ov]] => oK (fun v : Int × Int × Int × Int × Int × Bool => k (.tuple [(.int .i64 v.1), (.int .i64 v.2.1)]) [(.var [(.int .i64 v.2.2.1), (.int .i64 v.2.2.2.1), .nils, (.int .i64 v.2.2.2.2.1), (.bool v.2.2.2.2.2)])]) (S.q_rsum1 100000 rw rg nw ov t)
  | _, _ => none
theorem H17s_ok : HndOk Try.prog 17 H17s := hnd_ok tis tisOk mixOk G16_ok F17 Try.func17 rfl (by
  intro R args σ k r h
  unfold H17s at h
  split at h
  · rename_i t rw rg lo len nw ov r; exact ⟨100000, (S.q_rsum_v 100000 r lo len rw rg nw ov t _).trans h⟩
  · rename_i t rw rg nw ov; exact ⟨100000, (S.q_rsum1_v 100000 rw rg nw ov t _).trans h⟩
  · cases h)
noncomputable def G17s : Env := Env.add 17 H17s G16s
theorem G17s_ok : EnvOk Try.prog G17s := envAdd_ok H17s_ok G16s_ok
noncomputable def Z_rmean : {f : ∀ (r : RL) (lo len : Nat) (rw rg nw : Int) (ov : Bool) (t : Int), Option (Int × Int × Int × Nat × Nat × Int × Bool × List (Int × Int)) // f = fun (r : RL) (lo len : Nat) (rw rg nw : Int) (ov : Bool) (t : Int) => S.rmean r lo len rw rg nw ov t} := Classical.choice ⟨⟨_, rfl⟩⟩
noncomputable def S.q_rmean (r : RL) (lo len : Nat) (rw rg nw : Int) (ov : Bool) (t : Int) : Option (Int × Int × Int × Nat × Nat × Int × Bool × List (Int × Int)) := Z_rmean.1 r lo len rw rg nw ov t
theorem S.q_rmean_eq (r : RL) (lo len : Nat) (rw rg nw : Int) (ov : Bool) (t : Int) : S.q_rmean r lo len rw rg nw ov t = S.rmean r lo len rw rg nw ov t := by unfold S.q_rmean; rw [Z_rmean.2]
theorem S.q_rmean_v {R : Type} (r : RL) (lo len : Nat) (rw rg nw : Int) (ov : Bool) (t : Int) (k : AVal → List Blk → Option R) : fnEval tis F19 0 G17 Try.f19 [.ptr 0 0 0, .int .i64 t] [.var [.int .i64 rw, .int .i64 rg, .slice 2 1 lo len none, .int .i64 nw, .bool ov], .rows (.pair (.int .i64) (.int .i64)) r false] k = oK (fun v : Int × Int × Int × Nat × Nat × Int × Bool × List (Int × Int) => k (.int .i64 v.1) [(.var [(.int .i64 v.2.1), (.int .i64 v.2.2.1), (.slice 2 1 v.2.2.2.1 v.2.2.2.2.1 none), (.int .i64 v.2.2.2.2.2.1), (.bool v.2.2.2.2.2.2.1)]), (.rows (Cd.pair (Cd.int .i64) (Cd.int .i64)) v.2.2.2.2.2.2.2 false)]) (S.q_rmean r lo len rw rg nw ov t) :=
  (S.rmean_v r lo len rw rg nw ov t k).trans (by rw [S.q_rmean_eq])
noncomputable def Z_rmean1 : {f : ∀ (rw rg nw : Int) (ov : Bool) (t : Int), Int × Int × Int × Int × Bool // f = fun (rw rg nw : Int) (ov : Bool) (t : Int) => S.rmean1 rw rg nw ov t} := Classical.choice ⟨⟨_, rfl⟩⟩
noncomputable def S.q_rmean1 (rw rg nw : Int) (ov : Bool) (t : Int) : Int × Int × Int × Int × Bool := Z_rmean1.1 rw rg nw ov t
theorem S.q_rmean1_eq (rw rg nw : Int) (ov : Bool) (t : Int) : S.q_rmean1 rw rg nw ov t = S.rmean1 rw rg nw ov t := by unfold S.q_rmean1; rw [Z_rmean1.2]
theorem S.q_rmean1_v {R : Type} (rw rg nw : Int) (ov : Bool) (t : Int) (k : AVal → List Blk → Option R) : fnEval tis F19 0 G17 Try.f19 [.ptr 0 0 0, .int .i64 t] [.var [.int .i64 rw, .int .i64 rg, .nils, .int .i64 nw, .bool ov]] k = k (.int .i64 (S.q_rmean1 rw rg nw ov t).1) [(.var [(.int .i64 (S.q_rmean1 rw rg nw ov t).2.1), (.int .i64 (S.q_rmean1 rw rg nw ov t).2.2.1), .nils, (.int .i64 (S.q_rmean1 rw rg nw ov t).2.2.2.1), (.bool (S.q_rmean1 rw rg nw ov t).2.2.2.2)])] :=
  (S.rmean1_v rw rg nw ov t k).trans (by rw [S.q_rmean1_eq])
noncomputable def H19s : Hnd := fun R args σ k => match args, σ with
  | [.ptr 0 0 0, .int .i64 t], [.var [.int .i64 rw, .int .i64 rg, .slice 2 1 lo len none, .int .i64 nw, .bool ov], .rows (.pair (.int .i64) (.int .i64)) r false] => oK (fun v : Int × Int × Int × Nat × Nat × Int × Bool × List (Int × Int) => k (.int .i64 v.1) [(.var [(.int .i64 v.2.1), (.int .i64 v.2.2.1), (.slice 2 1 v.2.2.2.1 v.2.2.2.2.1 none), (.int .i64 v.2.2.2.2.2.1), (.bool v.2.2.2.2.2.2.1)]), (.rows (Cd.pair (Cd.int .i64) (Cd.int .i64)) v.2.2.2.2.2.2.2 false)]) (S.q_rmean r lo len rw rg nw ov t)
  | [.ptr 0 0 0, .int .i64 t], [.var [.int .i64 rw, .int .i64 rg, .nils, .int .i64 nw, .bool ov]] => k (.int .i64 (S.q_rmean1 rw rg nw ov t).1) [(.var [(.int .i64 (S.q_rmean1 rw rg nw ov t).2.1), (.int .i64 (S.q_rmean1 rw rg nw ov t).2.2.1), .nils, (.int .i64 (S.q_rmean1 rw rg nw ov t).2.2.2.1), (.bool (S.q_rmean1 rw rg nw ov t).2.2.2.2)])]
  | _, _ => none
theorem H19s_ok : HndOk Try.prog 19 H19s := hnd_ok tis tisOk mixOk G17_ok F19 Try.func19 rfl (by
  intro R args σ k r h
  unfold H19s at h
  split at h
  · rename_i t rw rg lo len nw ov r; exact ⟨0, (S.q_rmean_v r lo len rw rg nw ov t _).trans h⟩
  · rename_i t rw rg nw ov; exact ⟨0, (S.q_rmean1_v rw rg nw ov t _).trans h⟩
  · cases h)
noncomputable def G19s : Env := Env.add 19 H19s G17s
theorem G19s_ok : EnvOk Try.prog G19s := envAdd_ok H19s_ok G17s_ok
noncomputable def Z_rresize : {f : ∀ (r : RL) (lo len : Nat) (rw rg nw : Int) (ov : Bool) (w : Int), Option (Int × Int × Int × Nat × Nat × Int × Bool × RL) // f = fun (r : RL) (lo len : Nat) (rw rg nw : Int) (ov : Bool) (w : Int) => S.rresize r lo len rw rg nw ov w} := Classical.choice ⟨⟨_, rfl⟩⟩
noncomputable def S.q_rresize (r : RL) (lo len : Nat) (rw rg nw : Int) (ov : Bool) (w : Int) : Option (Int × Int × Int × Nat × Nat × Int × Bool × RL) := Z_rresize.1 r lo len rw rg nw ov w
theorem S.q_rresize_eq (r : RL) (lo len : Nat) (rw rg nw : Int) (ov : Bool) (w : Int) : S.q_rresize r lo len rw rg nw ov w = S.rresize r lo len rw rg nw ov w := by unfold S.q_rresize; rw [Z_rresize.2]
theorem S.q_rresize_v {R : Type} (r : RL) (lo len : Nat) (rw rg nw : Int) (ov : Bool) (w : Int) (k : AVal → List Blk → Option R) : fnEval tis F21 0 G19 Try.f21 [.ptr 0 0 0, .int .i64 w] [.var [.int .i64 rw, .int .i64 rg, .slice 2 1 lo len none, .int .i64 nw, .bool ov], .rows (.pair (.int .i64) (.int .i64)) r false] k = oK (fun v : Int × Int × Int × Nat × Nat × Int × Bool × RL => k (.int .i64 v.1) [(.var [(.int .i64 v.2.1), (.int .i64 v.2.2.1), (.slice 2 2 v.2.2.2.1 v.2.2.2.2.1 none), (.int .i64 v.2.2.2.2.2.1), (.bool v.2.2.2.2.2.2.1)]), .dead, (.rows (Cd.pair (Cd.int .i64) (Cd.int .i64)) v.2.2.2.2.2.2.2 false)]) (S.q_rresize r lo len rw rg nw ov w) :=
  (S.rresize_v r lo len rw rg nw ov w k).trans (by rw [S.q_rresize_eq])
noncomputable def Z_rresize1 : {f : ∀ (rw rg nw : Int) (ov : Bool) (w : Int), Int × Int × Int × Int × Bool × List (Int × Int) // f = fun (rw rg nw : Int) (ov : Bool) (w : Int) => S.rresize1 rw rg nw ov w} := Classical.choice ⟨⟨_, rfl⟩⟩
noncomputable def S.q_rresize1 (rw rg nw : Int) (ov : Bool) (w : Int) : Int × Int × Int × Int × Bool × List (Int × Int) := Z_rresize1.1 rw rg nw ov w
theorem S.q_rresize1_eq (rw rg nw : Int) (ov : Bool) (w : Int) : S.q_rresize1 rw rg nw ov w = S.rresize1 rw rg nw ov w := by unfold S.q_rresize1; rw [Z_rresize1.2]
theorem S.q_rresize1_v {R : Type} (rw rg nw : Int) (ov : Bool) (w : Int) (k : AVal → List Blk → Option R) : fnEval tis F21 0 G19 Try.f21 [.ptr 0 0 0, .int .i64 w] [.var [.int .i64 rw, .int .i64 rg, .nils, .int .i64 nw, .bool ov]] k = k (.int .i64 (S.q_rresize1 rw rg nw ov w).1) [(.var [(.int .i64 (S.q_rresize1 rw rg nw ov w).2.1), (.int .i64 (S.q_rresize1 rw rg nw ov w).2.2.1), (.slice 2 1 (0) (0) none), (.int .i64 (S.q_rresize1 rw rg nw ov w).2.2.2.1), (.bool (S.q_rresize1 rw rg nw ov w).2.2.2.2.1)]), (.rows (Cd.pair (Cd.int .i64) (Cd.int .i64)) (S.q_rresize1 rw rg nw ov w).2.2.2.2.2 false)] :=
  (S.rresize1_v rw rg nw ov w k).trans (by rw [S.q_rresize1_eq])
noncomputable def H21s : Hnd := fun R args σ k => match args, σ with
  | [.ptr 0 0 0, .int .i64 w], [.var [.int .i64 rw, .int .i64 rg, .slice 2 1 lo len none, .int .i64 nw, .bool ov], .rows (.pair (.int .i64) (.int .i64)) r false] => oK (fun v : Int × Int × Int × Nat × Nat × Int × Bool × RL => k (.int .i64 v.1) [(.var [(.int .i64 v.2.1), (.int .i64 v.2.2.1), (.slice 2 2 v.2.2.2.1 v.2.2.2.2.1 none), (.int .i64 v.2.2.2.2.2.1), (.bool v.2.2.2.2.2.2.1)]), .dead, (.rows (Cd.pair (Cd.int .i64) (Cd.int .i64)) v.2.2.2.2.2.2.2 false)]) (S.q_rresize r lo len rw rg nw ov w)
  | [.ptr 0 0 0, .int .i64 w], [.var [.int .i64 rw, .int .i64 rg, .nils, .int .i64 nw, .bool ov]] => k (.int .i64 (S.q_rresize1 rw rg nw ov w).1) [(.var [(.int .i64 (S.q_rresize1 rw rg nw ov w).2.1), (.int .i64 (S.q_rresize1 rw rg nw ov w).2.2.1), (.slice 2 1 (0) (0) none), (.int .i64 (S.q_rresize1 rw rg nw ov w).2.2.2.1), (.bool (S.q_rresize1 rw rg nw ov w).2.2.2.2.1)]), (.rows (Cd.pair (Cd.int .i64) (Cd.int .i64)) (S.q_rresize1 rw rg nw ov w).2.2.2.2.2 false)]
  | _, _ => none
theorem H21s_ok : HndOk Try.prog 21 H21s := hnd_ok tis tisOk mixOk G19_ok F21 Try.func21 rfl (by
  intro R args σ k r h
  unfold H21s at h
  split at h
  · rename_i w rw rg lo len nw ov r; exact ⟨0, (S.q_rresize_v r lo len rw rg nw ov w _).trans h⟩
  · rename_i w rw rg nw ov; exact ⟨0, (S.q_rresize1_v rw rg nw ov w _).trans h⟩
  · cases h)
noncomputable def G21s : Env := Env.add 21 H21s G19s
theorem G21s_ok : EnvOk Try.prog G21s := envAdd_ok H21s_ok G19s_ok
end Go.Proofs.Ytmgnfjiogfcieaa.AB
