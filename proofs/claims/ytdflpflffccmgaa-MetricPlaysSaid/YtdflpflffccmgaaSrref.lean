/- The document's rings, as plain functions. -/
import Derived.Test.YtdflpflffccmgaaStold11
namespace Go.Proofs.Ytdflpflffccmgaa.AB
set_option linter.unusedVariables false

/-! spinnakerref5.NewRing -/
def F32 : FCfg := ⟨keepAt [(0, [0, 1]), (1, [0, 1, 19]), (2, [4]), (3, [4])], loopAt [], []⟩
theorem S.rnewring_k {R : Type} (w g : Int) (k : AVal → List Blk → Option R) : fnEval tis F32 0 G13 Try.f32 [.int .i64 w, .int .i64 g] [] k =
  (bif decide (w < 1) then
   k (.nilp) ([])
 else
   bif decide (600 < w) then
   k (.nilp) ([])
 else
   bif decide (g < 1) then
   k (.nilp) ([])
 else
   bif decide (w < g) then
   k (.nilp) ([])
 else
   k (.ptr 0 0 0) ([.var [.int .i64 w, .int .i64 g, .nils, .int .i64 (-1), .bool false]])) := by kernel_rfl
noncomputable def S.rnewring (w g : Int) : (Unit) ⊕ (Int × Int) :=
  bif decide (w < 1) then
   (.inl ())
 else
   bif decide (600 < w) then
   (.inl ())
 else
   bif decide (g < 1) then
   (.inl ())
 else
   bif decide (w < g) then
   (.inl ())
 else
   (.inr (w, g))
noncomputable def S.rnewring_gk {R : Type} (w g : Int) (k : AVal → List Blk → Option R) : ((Unit) ⊕ (Int × Int)) → Option R := (Sum.elim (fun v : Unit => k .nilp []) (fun v : Int × Int => k (.ptr 0 (0) 0) [(.var [(.int .i64 v.1), (.int .i64 v.2), .nils, (.int .i64 (-1)), (.bool (false))])]))
theorem S.rnewring_v {R : Type} (w g : Int) (k : AVal → List Blk → Option R) : fnEval tis F32 0 G13 Try.f32 [.int .i64 w, .int .i64 g] [] k = (Sum.elim (fun v : Unit => k .nilp []) (fun v : Int × Int => k (.ptr 0 (0) 0) [(.var [(.int .i64 v.1), (.int .i64 v.2), .nils, (.int .i64 (-1)), (.bool (false))])])) (S.rnewring w g) :=
  (S.rnewring_k w g k).trans (bif_lift (f := (S.rnewring_gk w g k)) rfl (bif_lift (f := (S.rnewring_gk w g k)) rfl (bif_lift (f := (S.rnewring_gk w g k)) rfl (bif_lift (f := (S.rnewring_gk w g k)) rfl rfl))))
noncomputable def H32 : Hnd := fun R args σ k => match args, σ with
  | [.int .i64 w, .int .i64 g], [] => (Sum.elim (fun v : Unit => k .nilp []) (fun v : Int × Int => k (.ptr 0 (0) 0) [(.var [(.int .i64 v.1), (.int .i64 v.2), .nils, (.int .i64 (-1)), (.bool (false))])])) (S.rnewring w g)
  | _, _ => none
theorem H32_ok : HndOk Try.prog 32 H32 := hnd_ok tis tisOk mixOk G13_ok F32 Try.func32 rfl (by
  intro R args σ k r h
  unfold H32 at h
  split at h
  · rename_i w g; exact ⟨0, (S.rnewring_v w g _).trans h⟩
  · cases h)
noncomputable def G32 : Env := Env.add 32 H32 G13
theorem G32_ok : EnvOk Try.prog G32 := envAdd_ok H32_ok G13_ok

/-! (*spinnakerref5.Ring).N -/
def F56 : FCfg := ⟨keepAt [(0, [0]), (1, [2])], loopAt [], []⟩
theorem S.rN_k {R : Type} (r : RL) (lo len : Nat) (rw rg nw : Int) (ov : Bool) (k : AVal → List Blk → Option R) : fnEval tis F56 0 G32 Try.f56 [.ptr 0 0 0] [.var [.int .i64 rw, .int .i64 rg, .slice 2 1 lo len none, .int .i64 nw, .bool ov], .rows (.pair (.int .i64) (.int .i64)) r false] k =
  (bif decide (rg = 0) then
   none
 else
   k (.int .i64 (Go.IntKind.wrap .i64 (Int.tdiv (Go.IntKind.wrap .i64 (Go.IntKind.wrap .i64 (rw + rg) - 1)) rg))) ([.var [.int .i64 rw, .int .i64 rg, .slice 2 1 lo len Option.none, .int .i64 nw, .bool ov], .rows (Cd.pair (Cd.int .i64) (Cd.int .i64)) r false])) := by kernel_rfl
noncomputable def S.rN (r : RL) (lo len : Nat) (rw rg nw : Int) (ov : Bool) : Option (Int) :=
  bif decide (rg = 0) then
   none
 else
   some (Go.IntKind.wrap .i64 (Int.tdiv (Go.IntKind.wrap .i64 (Go.IntKind.wrap .i64 (rw + rg) - 1)) rg))
noncomputable def S.rN_gk {R : Type} (r : RL) (lo len : Nat) (rw rg nw : Int) (ov : Bool) (k : AVal → List Blk → Option R) : (Int) → Option R := (fun v : Int => k (.int .i64 v) [.var [.int .i64 rw, .int .i64 rg, .slice 2 1 lo len none, .int .i64 nw, .bool ov], .rows (.pair (.int .i64) (.int .i64)) r false])
theorem S.rN_v {R : Type} (r : RL) (lo len : Nat) (rw rg nw : Int) (ov : Bool) (k : AVal → List Blk → Option R) : fnEval tis F56 0 G32 Try.f56 [.ptr 0 0 0] [.var [.int .i64 rw, .int .i64 rg, .slice 2 1 lo len none, .int .i64 nw, .bool ov], .rows (.pair (.int .i64) (.int .i64)) r false] k = oK (fun v : Int => k (.int .i64 v) [.var [.int .i64 rw, .int .i64 rg, .slice 2 1 lo len none, .int .i64 nw, .bool ov], .rows (.pair (.int .i64) (.int .i64)) r false]) (S.rN r lo len rw rg nw ov) :=
  (S.rN_k r lo len rw rg nw ov k).trans (bif_lift (f := (oK (S.rN_gk r lo len rw rg nw ov k))) rfl rfl)
theorem S.rN1_k {R : Type} (rw rg nw : Int) (ov : Bool) (k : AVal → List Blk → Option R) : fnEval tis F56 0 G32 Try.f56 [.ptr 0 0 0] [.var [.int .i64 rw, .int .i64 rg, .nils, .int .i64 nw, .bool ov]] k =
  (bif decide (rg = 0) then
   none
 else
   k (.int .i64 (Go.IntKind.wrap .i64 (Int.tdiv (Go.IntKind.wrap .i64 (Go.IntKind.wrap .i64 (rw + rg) - 1)) rg))) ([.var [.int .i64 rw, .int .i64 rg, .nils, .int .i64 nw, .bool ov]])) := by kernel_rfl
noncomputable def S.rN1 (rw rg nw : Int) (ov : Bool) : Option (Int) :=
  bif decide (rg = 0) then
   none
 else
   some (Go.IntKind.wrap .i64 (Int.tdiv (Go.IntKind.wrap .i64 (Go.IntKind.wrap .i64 (rw + rg) - 1)) rg))
noncomputable def S.rN1_gk {R : Type} (rw rg nw : Int) (ov : Bool) (k : AVal → List Blk → Option R) : (Int) → Option R := (fun v : Int => k (.int .i64 v) [.var [.int .i64 rw, .int .i64 rg, .nils, .int .i64 nw, .bool ov]])
theorem S.rN1_v {R : Type} (rw rg nw : Int) (ov : Bool) (k : AVal → List Blk → Option R) : fnEval tis F56 0 G32 Try.f56 [.ptr 0 0 0] [.var [.int .i64 rw, .int .i64 rg, .nils, .int .i64 nw, .bool ov]] k = oK (fun v : Int => k (.int .i64 v) [.var [.int .i64 rw, .int .i64 rg, .nils, .int .i64 nw, .bool ov]]) (S.rN1 rw rg nw ov) :=
  (S.rN1_k rw rg nw ov k).trans (bif_lift (f := (oK (S.rN1_gk rw rg nw ov k))) rfl rfl)
noncomputable def H56 : Hnd := fun R args σ k => match args, σ with
  | [.ptr 0 0 0], [.var [.int .i64 rw, .int .i64 rg, .slice 2 1 lo len none, .int .i64 nw, .bool ov], .rows (.pair (.int .i64) (.int .i64)) r false] => oK (fun v : Int => k (.int .i64 v) []) (S.rN r lo len rw rg nw ov)
  | [.ptr 0 0 0], [.var [.int .i64 rw, .int .i64 rg, .nils, .int .i64 nw, .bool ov]] => oK (fun v : Int => k (.int .i64 v) []) (S.rN1 rw rg nw ov)
  | _, _ => none
theorem H56_ok : HndOk Try.prog 56 H56 := hnd_ok_pure tis tisOk mixOk G32_ok F56 Try.func56 rfl (by
  intro R args σ k r h
  unfold H56 at h
  split at h
  · rename_i rw rg lo len nw ov r; exact ⟨0, (S.rN_v r lo len rw rg nw ov _).trans ((congrArg (fun g9 => oK g9 (S.rN r lo len rw rg nw ov)) (funext fun v => if_pos rfl)).trans h)⟩
  · rename_i rw rg nw ov; exact ⟨0, (S.rN1_v rw rg nw ov _).trans ((congrArg (fun g9 => oK g9 (S.rN1 rw rg nw ov)) (funext fun v => if_pos rfl)).trans h)⟩
  · cases h)
noncomputable def G56 : Env := Env.add 56 H56 G32
theorem G56_ok : EnvOk Try.prog G56 := envAdd_ok H56_ok G32_ok

/-! (*spinnakerref5.Ring).bucket -/
def F55 : FCfg := ⟨keepAt [(0, [0, 1]), (1, [4])], loopAt [], []⟩
theorem S.rbucket_k {R : Type} (r : RL) (lo len : Nat) (rw rg nw : Int) (ov : Bool) (t : Int) (k : AVal → List Blk → Option R) : fnEval tis F55 0 G56 Try.f55 [.ptr 0 0 0, .int .i64 t] [.var [.int .i64 rw, .int .i64 rg, .slice 2 1 lo len none, .int .i64 nw, .bool ov], .rows (.pair (.int .i64) (.int .i64)) r false] k =
  (bif decide (rg = 0) then
   none
 else
   k (.int .i64 (Go.IntKind.wrap .i64 (Int.tdiv t rg))) ([.var [.int .i64 rw, .int .i64 rg, .slice 2 1 lo len Option.none, .int .i64 nw, .bool ov], .rows (Cd.pair (Cd.int .i64) (Cd.int .i64)) r false])) := by kernel_rfl
noncomputable def S.rbucket (r : RL) (lo len : Nat) (rw rg nw : Int) (ov : Bool) (t : Int) : Option (Int) :=
  bif decide (rg = 0) then
   none
 else
   some (Go.IntKind.wrap .i64 (Int.tdiv t rg))
noncomputable def S.rbucket_gk {R : Type} (r : RL) (lo len : Nat) (rw rg nw : Int) (ov : Bool) (t : Int) (k : AVal → List Blk → Option R) : (Int) → Option R := (fun v : Int => k (.int .i64 v) [.var [.int .i64 rw, .int .i64 rg, .slice 2 1 lo len none, .int .i64 nw, .bool ov], .rows (.pair (.int .i64) (.int .i64)) r false])
theorem S.rbucket_v {R : Type} (r : RL) (lo len : Nat) (rw rg nw : Int) (ov : Bool) (t : Int) (k : AVal → List Blk → Option R) : fnEval tis F55 0 G56 Try.f55 [.ptr 0 0 0, .int .i64 t] [.var [.int .i64 rw, .int .i64 rg, .slice 2 1 lo len none, .int .i64 nw, .bool ov], .rows (.pair (.int .i64) (.int .i64)) r false] k = oK (fun v : Int => k (.int .i64 v) [.var [.int .i64 rw, .int .i64 rg, .slice 2 1 lo len none, .int .i64 nw, .bool ov], .rows (.pair (.int .i64) (.int .i64)) r false]) (S.rbucket r lo len rw rg nw ov t) :=
  (S.rbucket_k r lo len rw rg nw ov t k).trans (bif_lift (f := (oK (S.rbucket_gk r lo len rw rg nw ov t k))) rfl rfl)
theorem S.rbucket1_k {R : Type} (rw rg nw : Int) (ov : Bool) (t : Int) (k : AVal → List Blk → Option R) : fnEval tis F55 0 G56 Try.f55 [.ptr 0 0 0, .int .i64 t] [.var [.int .i64 rw, .int .i64 rg, .nils, .int .i64 nw, .bool ov]] k =
  (bif decide (rg = 0) then
   none
 else
   k (.int .i64 (Go.IntKind.wrap .i64 (Int.tdiv t rg))) ([.var [.int .i64 rw, .int .i64 rg, .nils, .int .i64 nw, .bool ov]])) := by kernel_rfl
noncomputable def S.rbucket1 (rw rg nw : Int) (ov : Bool) (t : Int) : Option (Int) :=
  bif decide (rg = 0) then
   none
 else
   some (Go.IntKind.wrap .i64 (Int.tdiv t rg))
noncomputable def S.rbucket1_gk {R : Type} (rw rg nw : Int) (ov : Bool) (t : Int) (k : AVal → List Blk → Option R) : (Int) → Option R := (fun v : Int => k (.int .i64 v) [.var [.int .i64 rw, .int .i64 rg, .nils, .int .i64 nw, .bool ov]])
theorem S.rbucket1_v {R : Type} (rw rg nw : Int) (ov : Bool) (t : Int) (k : AVal → List Blk → Option R) : fnEval tis F55 0 G56 Try.f55 [.ptr 0 0 0, .int .i64 t] [.var [.int .i64 rw, .int .i64 rg, .nils, .int .i64 nw, .bool ov]] k = oK (fun v : Int => k (.int .i64 v) [.var [.int .i64 rw, .int .i64 rg, .nils, .int .i64 nw, .bool ov]]) (S.rbucket1 rw rg nw ov t) :=
  (S.rbucket1_k rw rg nw ov t k).trans (bif_lift (f := (oK (S.rbucket1_gk rw rg nw ov t k))) rfl rfl)
noncomputable def H55 : Hnd := fun R args σ k => match args, σ with
  | [.ptr 0 0 0, .int .i64 t], [.var [.int .i64 rw, .int .i64 rg, .slice 2 1 lo len none, .int .i64 nw, .bool ov], .rows (.pair (.int .i64) (.int .i64)) r false] => oK (fun v : Int => k (.int .i64 v) []) (S.rbucket r lo len rw rg nw ov t)
  | [.ptr 0 0 0, .int .i64 t], [.var [.int .i64 rw, .int .i64 rg, .nils, .int .i64 nw, .bool ov]] => oK (fun v : Int => k (.int .i64 v) []) (S.rbucket1 rw rg nw ov t)
  | _, _ => none
theorem H55_ok : HndOk Try.prog 55 H55 := hnd_ok_pure tis tisOk mixOk G56_ok F55 Try.func55 rfl (by
  intro R args σ k r h
  unfold H55 at h
  split at h
  · rename_i t rw rg lo len nw ov r; exact ⟨0, (S.rbucket_v r lo len rw rg nw ov t _).trans ((congrArg (fun g9 => oK g9 (S.rbucket r lo len rw rg nw ov t)) (funext fun v => if_pos rfl)).trans h)⟩
  · rename_i t rw rg nw ov; exact ⟨0, (S.rbucket1_v rw rg nw ov t _).trans ((congrArg (fun g9 => oK g9 (S.rbucket1 rw rg nw ov t)) (funext fun v => if_pos rfl)).trans h)⟩
  · cases h)
noncomputable def G55 : Env := Env.add 55 H55 G56
theorem G55_ok : EnvOk Try.prog G55 := envAdd_ok H55_ok G56_ok

/-! (*spinnakerref5.Ring).forget -/
def F57 : FCfg := ⟨keepAt [(0, [0, 2]), (1, [0, 2, 3]), (2, [0, 2, 3, 10]), (3, [0, 2, 3]), (4, [0, 2, 3, 30]), (5, [0, 2, 3]), (6, [])], loopAt [(2, [0, 2, 3], [⟨0, true, 2, [], 0, (.pair (.int .i64) (.int .i64)), none⟩])], []⟩
noncomputable def C_rforget (fu : Nat) (r : RL) (lo len : Nat) (rw rg nw : Int) (ov : Bool) : Cfg := Cfg.of tis F57 fu (List.length ([.var [.int .i64 rw, .int .i64 rg, .slice 2 1 lo len none, .int .i64 nw, .bool ov], .rows (.pair (.int .i64) (.int .i64)) r false] : List Blk)) Try.f57.ntmps
noncomputable def S.rforget_b0 : Code := codeAt (bodyOf Try.f57) [1, 0, 1, 0, 0]
noncomputable def S.rforget_s0 (r : RL) (lo len : Nat) (rw rg nw : Int) (ov : Bool) (y0 : Nat) (y1 : Int) (y2 : List (Int × Int)) : St := ⟨[(0, (.ptr 0 (0) 0)), (2, (.slice 2 2 (0) (y0) none)), (3, (.int .i64 (y1)))], [(.var [(.int .i64 (rw)), (.int .i64 (rg)), (.slice 2 1 (lo) (len) none), (.int .i64 (nw)), (.bool (ov))]), (.rows (Cd.pair (Cd.int .i64) (Cd.int .i64)) (r) false), (.rows (Cd.pair (Cd.int .i64) (Cd.int .i64)) (y2) false)]⟩
noncomputable def S.rforget_x0_0 (r : RL) (lo len : Nat) (rw rg nw : Int) (ov : Bool) (z0 : Nat) (z1 : Int) (z2 : Bool) (z3 : List (Int × Int)) : St := ⟨[(0, (.ptr 0 (0) 0)), (2, (.slice 2 2 (0) (z0) none)), (3, (.int .i64 (z1))), (10, (.bool (z2)))], [(.var [(.int .i64 (rw)), (.int .i64 (rg)), (.slice 2 1 (lo) (len) none), (.int .i64 (nw)), (.bool (ov))]), (.rows (Cd.pair (Cd.int .i64) (Cd.int .i64)) (r) false), (.rows (Cd.pair (Cd.int .i64) (Cd.int .i64)) (z3) false)]⟩
noncomputable def S.rforget_g0 {R : Type} (r : RL) (lo len : Nat) (rw rg nw : Int) (ov : Bool) (K : Ex → St → Option R) : ((Nat × Int × Bool × List (Int × Int))) → Option R := (fun z : Nat × Int × Bool × List (Int × Int) => K (Ex.exit 0) (S.rforget_x0_0 r lo len rw rg nw ov (z.1) (z.2.1) (z.2.2.1) (z.2.2.2)))
noncomputable def S.rforget_gk {R : Type} (r : RL) (lo len : Nat) (rw rg nw : Int) (ov : Bool) (k : AVal → List Blk → Option R) : (Int × Int × Nat × Int × Bool × RL × List (Int × Int)) → Option R := (fun v : Int × Int × Nat × Int × Bool × RL × List (Int × Int) => k (.tuple []) [(.var [(.int .i64 v.1), (.int .i64 v.2.1), (.slice 2 2 (0) v.2.2.1 none), (.int .i64 v.2.2.2.1), (.bool v.2.2.2.2.1)]), (.rows (Cd.pair (Cd.int .i64) (Cd.int .i64)) v.2.2.2.2.2.1 false), (.rows (Cd.pair (Cd.int .i64) (Cd.int .i64)) v.2.2.2.2.2.2 false)])
theorem S.rforget_l0_k {R : Type} (fu : Nat) (r : RL) (lo len : Nat) (rw rg nw : Int) (ov : Bool) (n : Nat) (K : Ex → St → Option R) (y0 : Nat) (y1 : Int) (y2 : List (Int × Int)) : loopRun (C_rforget fu r lo len rw rg nw ov) G55 S.rforget_b0 (n + 1) (S.rforget_s0 r lo len rw rg nw ov (y0) (y1) (y2)) K =
  (bif decide (y1 < ((len : Nat) : Int)) then
   bif inB y1 len then
   (optK (r[Int.toNat y1 + lo]?) fun o4 =>
   (optK (S.rbucket r lo len rw rg nw ov o4.1) fun o5 =>
   (optK (S.rN r lo len rw rg nw ov) fun o6 =>
   bif decide (Go.IntKind.wrap .i64 (nw - o5) < o6) then
   bif inB y1 len then
   (optK (r[Int.toNat y1 + lo]?) fun o9 =>
   bif Nat.beq 2 2 && Nat.blt 0 16 && Nat.beq 2 2 && Nat.beq 2 2 && Nat.beq 2 2 && Nat.blt 0 1 && !Nat.beq 2 3 && Nat.ble ((y0 + 1) * 16) 35184372088832 then
   loopRun (C_rforget fu r lo len rw rg nw ov) G55 S.rforget_b0 n (S.rforget_s0 r lo len rw rg nw ov (List.length (cutL y2 0 y0 ++ cutL [(o9.1, o9.2)] 0 1)) (Go.IntKind.wrap .i64 (y1 + 1)) (cutL y2 0 y0 ++ cutL [(o9.1, o9.2)] 0 1)) K
 else
   none)
 else
   none
 else
   loopRun (C_rforget fu r lo len rw rg nw ov) G55 S.rforget_b0 n (S.rforget_s0 r lo len rw rg nw ov (y0) (Go.IntKind.wrap .i64 (y1 + 1)) (y2)) K)))
 else
   none
 else
   K (Ex.exit 0) (S.rforget_x0_0 r lo len rw rg nw ov (y0) (y1) (decide (y1 < ((len : Nat) : Int))) (y2))) := by kernel_rfl
noncomputable def S.rforget_l0 (fu : Nat) (r : RL) (lo len : Nat) (rw rg nw : Int) (ov : Bool) : Nat → (Nat) → (Int) → (List (Int × Int)) → Option ((Nat × Int × Bool × List (Int × Int)))
  | 0, _, _, _ => none
  | n + 1, y0, y1, y2 =>
    bif decide (y1 < ((len : Nat) : Int)) then
   bif inB y1 len then
   (optK (r[Int.toNat y1 + lo]?) fun o4 =>
   (optK (S.rbucket r lo len rw rg nw ov o4.1) fun o5 =>
   (optK (S.rN r lo len rw rg nw ov) fun o6 =>
   bif decide (Go.IntKind.wrap .i64 (nw - o5) < o6) then
   bif inB y1 len then
   (optK (r[Int.toNat y1 + lo]?) fun o9 =>
   bif Nat.beq 2 2 && Nat.blt 0 16 && Nat.beq 2 2 && Nat.beq 2 2 && Nat.beq 2 2 && Nat.blt 0 1 && !Nat.beq 2 3 && Nat.ble ((y0 + 1) * 16) 35184372088832 then
   (S.rforget_l0 fu r lo len rw rg nw ov n) (List.length (cutL y2 0 y0 ++ cutL [(o9.1, o9.2)] 0 1)) (Go.IntKind.wrap .i64 (y1 + 1)) (cutL y2 0 y0 ++ cutL [(o9.1, o9.2)] 0 1)
 else
   none)
 else
   none
 else
   (S.rforget_l0 fu r lo len rw rg nw ov n) (y0) (Go.IntKind.wrap .i64 (y1 + 1)) (y2))))
 else
   none
 else
   some (y0, y1, decide (y1 < ((len : Nat) : Int)), y2)
theorem S.rforget_l0_v {R : Type} (fu : Nat) (r : RL) (lo len : Nat) (rw rg nw : Int) (ov : Bool) (K : Ex → St → Option R) : ∀ (n : Nat) (y0 : Nat) (y1 : Int) (y2 : List (Int × Int)), loopRun (C_rforget fu r lo len rw rg nw ov) G55 S.rforget_b0 n (S.rforget_s0 r lo len rw rg nw ov (y0) (y1) (y2)) K = oK (β := (Nat × Int × Bool × List (Int × Int))) (S.rforget_g0 r lo len rw rg nw ov K) (S.rforget_l0 fu r lo len rw rg nw ov n y0 y1 y2)
  | 0, _, _, _ => rfl
  | n + 1, y0, y1, y2 => (S.rforget_l0_k fu r lo len rw rg nw ov n K y0 y1 y2).trans (bif_lift (f := (oK (S.rforget_g0 r lo len rw rg nw ov K))) (bif_lift (f := (oK (S.rforget_g0 r lo len rw rg nw ov K))) (opt_lift fun o4 => (opt_lift fun o5 => (opt_lift fun o6 => (bif_lift (f := (oK (S.rforget_g0 r lo len rw rg nw ov K))) (bif_lift (f := (oK (S.rforget_g0 r lo len rw rg nw ov K))) (opt_lift fun o9 => (bif_lift (f := (oK (S.rforget_g0 r lo len rw rg nw ov K))) (S.rforget_l0_v fu r lo len rw rg nw ov K n (List.length (cutL y2 0 y0 ++ cutL [(o9.1, o9.2)] 0 1)) (Go.IntKind.wrap .i64 (y1 + 1)) (cutL y2 0 y0 ++ cutL [(o9.1, o9.2)] 0 1)) rfl)) rfl) (S.rforget_l0_v fu r lo len rw rg nw ov K n (y0) (Go.IntKind.wrap .i64 (y1 + 1)) (y2)))))) rfl) rfl)
theorem S.rforget_a0_0_k {R : Type} (fu : Nat) (r : RL) (lo len : Nat) (rw rg nw : Int) (ov : Bool) (z0 : Nat) (z1 : Int) (z2 : Bool) (z3 : List (Int × Int)) (k : AVal → List Blk → Option R) : contOf (C_rforget fu r lo len rw rg nw ov) G55 (bodyOf Try.f57) [1, 0, 1, 0] (retK tis F57 Try.f57 (List.length ([.var [.int .i64 rw, .int .i64 rg, .slice 2 1 lo len none, .int .i64 nw, .bool ov], .rows (.pair (.int .i64) (.int .i64)) r false] : List Blk)) k) (Ex.exit 0) (S.rforget_x0_0 r lo len rw rg nw ov (z0) (z1) (z2) (z3)) =
  (k (.tuple []) ([.var [.int .i64 rw, .int .i64 rg, .slice 2 2 0 z0 Option.none, .int .i64 nw, .bool ov], .rows (Cd.pair (Cd.int .i64) (Cd.int .i64)) r false, .rows (Cd.pair (Cd.int .i64) (Cd.int .i64)) z3 false])) := by kernel_rfl
noncomputable def S.rforget_a0_0 (fu : Nat) (r : RL) (lo len : Nat) (rw rg nw : Int) (ov : Bool) (z0 : Nat) (z1 : Int) (z2 : Bool) (z3 : List (Int × Int)) : Option (Int × Int × Nat × Int × Bool × RL × List (Int × Int)) :=
  some (rw, rg, z0, nw, ov, r, z3)
theorem S.rforget_a0_0_v {R : Type} (fu : Nat) (r : RL) (lo len : Nat) (rw rg nw : Int) (ov : Bool) (z0 : Nat) (z1 : Int) (z2 : Bool) (z3 : List (Int × Int)) (k : AVal → List Blk → Option R) : contOf (C_rforget fu r lo len rw rg nw ov) G55 (bodyOf Try.f57) [1, 0, 1, 0] (retK tis F57 Try.f57 (List.length ([.var [.int .i64 rw, .int .i64 rg, .slice 2 1 lo len none, .int .i64 nw, .bool ov], .rows (.pair (.int .i64) (.int .i64)) r false] : List Blk)) k) (Ex.exit 0) (S.rforget_x0_0 r lo len rw rg nw ov (z0) (z1) (z2) (z3)) = oK (S.rforget_gk r lo len rw rg nw ov k) (S.rforget_a0_0 fu r lo len rw rg nw ov z0 z1 z2 z3) :=
  (S.rforget_a0_0_k fu r lo len rw rg nw ov z0 z1 z2 z3 k).trans rfl
theorem S.rforget_k {R : Type} (fu : Nat) (r : RL) (lo len : Nat) (rw rg nw : Int) (ov : Bool) (k : AVal → List Blk → Option R) : fnEval tis F57 fu G55 Try.f57 [.ptr 0 0 0] [.var [.int .i64 rw, .int .i64 rg, .slice 2 1 lo len none, .int .i64 nw, .bool ov], .rows (.pair (.int .i64) (.int .i64)) r false] k =
  (loopRun (C_rforget fu r lo len rw rg nw ov) G55 S.rforget_b0 fu (S.rforget_s0 r lo len rw rg nw ov (0) (0) ([])) (contOf (C_rforget fu r lo len rw rg nw ov) G55 (bodyOf Try.f57) [1, 0, 1, 0] (retK tis F57 Try.f57 (List.length ([.var [.int .i64 rw, .int .i64 rg, .slice 2 1 lo len none, .int .i64 nw, .bool ov], .rows (.pair (.int .i64) (.int .i64)) r false] : List Blk)) k))) := by kernel_rfl
noncomputable def S.rforget (fu : Nat) (r : RL) (lo len : Nat) (rw rg nw : Int) (ov : Bool) : Option (Int × Int × Nat × Int × Bool × RL × List (Int × Int)) :=
  optK (S.rforget_l0 fu r lo len rw rg nw ov fu (0) (0) ([])) (fun z : Nat × Int × Bool × List (Int × Int) => S.rforget_a0_0 fu r lo len rw rg nw ov (z.1) (z.2.1) (z.2.2.1) (z.2.2.2))
theorem S.rforget_v {R : Type} (fu : Nat) (r : RL) (lo len : Nat) (rw rg nw : Int) (ov : Bool) (k : AVal → List Blk → Option R) : fnEval tis F57 fu G55 Try.f57 [.ptr 0 0 0] [.var [.int .i64 rw, .int .i64 rg, .slice 2 1 lo len none, .int .i64 nw, .bool ov], .rows (.pair (.int .i64) (.int .i64)) r false] k = oK (fun v : Int × Int × Nat × Int × Bool × RL × List (Int × Int) => k (.tuple []) [(.var [(.int .i64 v.1), (.int .i64 v.2.1), (.slice 2 2 (0) v.2.2.1 none), (.int .i64 v.2.2.2.1), (.bool v.2.2.2.2.1)]), (.rows (Cd.pair (Cd.int .i64) (Cd.int .i64)) v.2.2.2.2.2.1 false), (.rows (Cd.pair (Cd.int .i64) (Cd.int .i64)) v.2.2.2.2.2.2 false)]) (S.rforget fu r lo len rw rg nw ov) :=
  (S.rforget_k fu r lo len rw rg nw ov k).trans (arr_lift (S.rforget_l0_v fu r lo len rw rg nw ov (contOf (C_rforget fu r lo len rw rg nw ov) G55 (bodyOf Try.f57) [1, 0, 1, 0] (retK tis F57 Try.f57 (List.length ([.var [.int .i64 rw, .int .i64 rg, .slice 2 1 lo len none, .int .i64 nw, .bool ov], .rows (.pair (.int .i64) (.int .i64)) r false] : List Blk)) k)) fu (0) (0) ([])) ((fun z => S.rforget_a0_0_v fu r lo len rw rg nw ov (z.1) (z.2.1) (z.2.2.1) (z.2.2.2) k)))
noncomputable def C_rforget1 (fu : Nat) (rw rg nw : Int) (ov : Bool) : Cfg := Cfg.of tis F57 fu (List.length ([.var [.int .i64 rw, .int .i64 rg, .nils, .int .i64 nw, .bool ov]] : List Blk)) Try.f57.ntmps
noncomputable def S.rforget1_b0 : Code := codeAt (bodyOf Try.f57) [1, 0, 1, 0, 0]
noncomputable def S.rforget1_s0 (rw rg nw : Int) (ov : Bool)  : St := ⟨[(0, (.ptr 0 (0) 0)), (2, (.slice 2 1 (0) (0) none)), (3, (.int .i64 (0)))], [(.var [(.int .i64 (rw)), (.int .i64 (rg)), .nils, (.int .i64 (nw)), (.bool (ov))]), (.rows (Cd.pair (Cd.int .i64) (Cd.int .i64)) ([]) false)]⟩
noncomputable def S.rforget1_x0_0 (rw rg nw : Int) (ov : Bool)  : St := ⟨[(0, (.ptr 0 (0) 0)), (2, (.slice 2 1 (0) (0) none)), (3, (.int .i64 (0))), (10, (.bool (false)))], [(.var [(.int .i64 (rw)), (.int .i64 (rg)), .nils, (.int .i64 (nw)), (.bool (ov))]), (.rows (Cd.pair (Cd.int .i64) (Cd.int .i64)) ([]) false)]⟩
noncomputable def S.rforget1_g0 {R : Type} (rw rg nw : Int) (ov : Bool) (K : Ex → St → Option R) : ((Unit)) → Option R := (fun z : Unit => K (Ex.exit 0) (S.rforget1_x0_0 rw rg nw ov))
noncomputable def S.rforget1_gk {R : Type} (rw rg nw : Int) (ov : Bool) (k : AVal → List Blk → Option R) : (Int × Int × Int × Bool × List (Int × Int)) → Option R := (fun v : Int × Int × Int × Bool × List (Int × Int) => k (.tuple []) [(.var [(.int .i64 v.1), (.int .i64 v.2.1), (.slice 2 1 (0) (0) none), (.int .i64 v.2.2.1), (.bool v.2.2.2.1)]), (.rows (Cd.pair (Cd.int .i64) (Cd.int .i64)) v.2.2.2.2 false)])
theorem S.rforget1_l0_k {R : Type} (fu : Nat) (rw rg nw : Int) (ov : Bool) (n : Nat) (K : Ex → St → Option R)  : loopRun (C_rforget1 fu rw rg nw ov) G55 S.rforget1_b0 (n + 1) (S.rforget1_s0 rw rg nw ov) K =
  (K (Ex.exit 0) (S.rforget1_x0_0 rw rg nw ov)) := by kernel_rfl
noncomputable def S.rforget1_l0 (fu : Nat) (rw rg nw : Int) (ov : Bool) : Nat → Option ((Unit))
  | 0 => none
  | n + 1 =>
    some ()
theorem S.rforget1_l0_v {R : Type} (fu : Nat) (rw rg nw : Int) (ov : Bool) (K : Ex → St → Option R) : ∀ (n : Nat) , loopRun (C_rforget1 fu rw rg nw ov) G55 S.rforget1_b0 n (S.rforget1_s0 rw rg nw ov) K = oK (β := (Unit)) (S.rforget1_g0 rw rg nw ov K) (S.rforget1_l0 fu rw rg nw ov n)
  | 0 => rfl
  | n + 1 => (S.rforget1_l0_k fu rw rg nw ov n K).trans rfl
theorem S.rforget1_a0_0_k {R : Type} (fu : Nat) (rw rg nw : Int) (ov : Bool)  (k : AVal → List Blk → Option R) : contOf (C_rforget1 fu rw rg nw ov) G55 (bodyOf Try.f57) [1, 0, 1, 0] (retK tis F57 Try.f57 (List.length ([.var [.int .i64 rw, .int .i64 rg, .nils, .int .i64 nw, .bool ov]] : List Blk)) k) (Ex.exit 0) (S.rforget1_x0_0 rw rg nw ov) =
  (k (.tuple []) ([.var [.int .i64 rw, .int .i64 rg, .slice 2 1 0 0 Option.none, .int .i64 nw, .bool ov], .rows (Cd.pair (Cd.int .i64) (Cd.int .i64)) [] false])) := by kernel_rfl
noncomputable def S.rforget1_a0_0 (fu : Nat) (rw rg nw : Int) (ov : Bool)  : Option (Int × Int × Int × Bool × List (Int × Int)) :=
  some (rw, rg, nw, ov, [])
theorem S.rforget1_a0_0_v {R : Type} (fu : Nat) (rw rg nw : Int) (ov : Bool)  (k : AVal → List Blk → Option R) : contOf (C_rforget1 fu rw rg nw ov) G55 (bodyOf Try.f57) [1, 0, 1, 0] (retK tis F57 Try.f57 (List.length ([.var [.int .i64 rw, .int .i64 rg, .nils, .int .i64 nw, .bool ov]] : List Blk)) k) (Ex.exit 0) (S.rforget1_x0_0 rw rg nw ov) = oK (S.rforget1_gk rw rg nw ov k) (S.rforget1_a0_0 fu rw rg nw ov) :=
  (S.rforget1_a0_0_k fu rw rg nw ov k).trans rfl
theorem S.rforget1_k {R : Type} (fu : Nat) (rw rg nw : Int) (ov : Bool) (k : AVal → List Blk → Option R) : fnEval tis F57 fu G55 Try.f57 [.ptr 0 0 0] [.var [.int .i64 rw, .int .i64 rg, .nils, .int .i64 nw, .bool ov]] k =
  (loopRun (C_rforget1 fu rw rg nw ov) G55 S.rforget1_b0 fu (S.rforget1_s0 rw rg nw ov) (contOf (C_rforget1 fu rw rg nw ov) G55 (bodyOf Try.f57) [1, 0, 1, 0] (retK tis F57 Try.f57 (List.length ([.var [.int .i64 rw, .int .i64 rg, .nils, .int .i64 nw, .bool ov]] : List Blk)) k))) := by kernel_rfl
noncomputable def S.rforget1 (fu : Nat) (rw rg nw : Int) (ov : Bool) : Option (Int × Int × Int × Bool × List (Int × Int)) :=
  optK (S.rforget1_l0 fu rw rg nw ov fu) (fun z : Unit => S.rforget1_a0_0 fu rw rg nw ov)
theorem S.rforget1_v {R : Type} (fu : Nat) (rw rg nw : Int) (ov : Bool) (k : AVal → List Blk → Option R) : fnEval tis F57 fu G55 Try.f57 [.ptr 0 0 0] [.var [.int .i64 rw, .int .i64 rg, .nils, .int .i64 nw, .bool ov]] k = oK (fun v : Int × Int × Int × Bool × List (Int × Int) => k (.tuple []) [(.var [(.int .i64 v.1), (.int .i64 v.2.1), (.slice 2 1 (0) (0) none), (.int .i64 v.2.2.1), (.bool v.2.2.2.1)]), (.rows (Cd.pair (Cd.int .i64) (Cd.int .i64)) v.2.2.2.2 false)]) (S.rforget1 fu rw rg nw ov) :=
  (S.rforget1_k fu rw rg nw ov k).trans (arr_lift (S.rforget1_l0_v fu rw rg nw ov (contOf (C_rforget1 fu rw rg nw ov) G55 (bodyOf Try.f57) [1, 0, 1, 0] (retK tis F57 Try.f57 (List.length ([.var [.int .i64 rw, .int .i64 rg, .nils, .int .i64 nw, .bool ov]] : List Blk)) k)) fu) ((fun z => S.rforget1_a0_0_v fu rw rg nw ov k)))
noncomputable def H57 : Hnd := fun R args σ k => match args, σ with
  | [.ptr 0 0 0], [.var [.int .i64 rw, .int .i64 rg, .slice 2 1 lo len none, .int .i64 nw, .bool ov], .rows (.pair (.int .i64) (.int .i64)) r false] => oK (fun v : Int × Int × Nat × Int × Bool × RL × List (Int × Int) => k (.tuple []) [(.var [(.int .i64 v.1), (.int .i64 v.2.1), (.slice 2 2 (0) v.2.2.1 none), (.int .i64 v.2.2.2.1), (.bool v.2.2.2.2.1)]), (.rows (Cd.pair (Cd.int .i64) (Cd.int .i64)) v.2.2.2.2.2.1 false), (.rows (Cd.pair (Cd.int .i64) (Cd.int .i64)) v.2.2.2.2.2.2 false)]) (S.rforget 100000 r lo len rw rg nw ov)
  | [.ptr 0 0 0], [.var [.int .i64 rw, .int .i64 rg, .nils, .int .i64 nw, .bool ov]] => oK (fun v : Int × Int × Int × Bool × List (Int × Int) => k (.tuple []) [(.var [(.int .i64 v.1), (.int .i64 v.2.1), (.slice 2 1 (0) (0) none), (.int .i64 v.2.2.1), (.bool v.2.2.2.1)]), (.rows (Cd.pair (Cd.int .i64) (Cd.int .i64)) v.2.2.2.2 false)]) (S.rforget1 100000 rw rg nw ov)
  | _, _ => none
theorem H57_ok : HndOk Try.prog 57 H57 := hnd_ok tis tisOk mixOk G55_ok F57 Try.func57 rfl (by
  intro R args σ k r h
  unfold H57 at h
  split at h
  · rename_i rw rg lo len nw ov r; exact ⟨100000, (S.rforget_v 100000 r lo len rw rg nw ov _).trans h⟩
  · rename_i rw rg nw ov; exact ⟨100000, (S.rforget1_v 100000 rw rg nw ov _).trans h⟩
  · cases h)
noncomputable def G57 : Env := Env.add 57 H57 G55
theorem G57_ok : EnvOk Try.prog G57 := envAdd_ok H57_ok G55_ok

/-! (*spinnakerref5.Ring).Put -/
def F35 : FCfg := ⟨keepAt [(0, [0, 1, 2]), (1, [0, 1, 2, 16]), (2, [6]), (3, [0, 1, 2, 27]), (4, [6]), (5, [0, 1, 2]), (6, [0]), (7, []), (8, [6])], loopAt [], [⟨1, false, 0, [], 2, (.pair (.int .i64) (.int .i64)), none⟩, ⟨2, false, 0, [2], 0, .bool, none⟩]⟩
theorem S.rput_k {R : Type} (r : RL) (lo len : Nat) (rw rg nw : Int) (ov : Bool) (t v : Int) (k : AVal → List Blk → Option R) : fnEval tis F35 0 G57 Try.f35 [.ptr 0 0 0, .int .i64 t, .int .i64 v] [.var [.int .i64 rw, .int .i64 rg, .slice 2 1 lo len none, .int .i64 nw, .bool ov], .rows (.pair (.int .i64) (.int .i64)) r false] k =
  (bif decide (t < 0) then
   k (.int .i64 1) ([.var [.int .i64 rw, .int .i64 rg, .slice 2 2 lo len Option.none, .int .i64 nw, .bool ov], .dead, .rows (Cd.pair (Cd.int .i64) (Cd.int .i64)) r false])
 else
   bif decide (1099511627776 < t) then
   k (.int .i64 1) ([.var [.int .i64 rw, .int .i64 rg, .slice 2 2 lo len Option.none, .int .i64 nw, .bool ov], .dead, .rows (Cd.pair (Cd.int .i64) (Cd.int .i64)) r false])
 else
   bif decide (v < 0) then
   k (.int .i64 1) ([.var [.int .i64 rw, .int .i64 rg, .slice 2 2 lo len Option.none, .int .i64 nw, .bool ov], .dead, .rows (Cd.pair (Cd.int .i64) (Cd.int .i64)) r false])
 else
   (optK (S.rbucket r lo len rw rg nw ov t) fun o5 =>
   (optK (S.rN r lo len rw rg nw ov) fun o6 =>
   bif decide (o6 ≤ Go.IntKind.wrap .i64 (nw - o5)) then
   k (.int .i64 0) ([.var [.int .i64 rw, .int .i64 rg, .slice 2 2 lo len Option.none, .int .i64 nw, .bool ov], .dead, .rows (Cd.pair (Cd.int .i64) (Cd.int .i64)) r false])
 else
   (optK (S.rbucket r lo len rw rg nw ov t) fun o8 =>
   bif Nat.beq 2 2 && Nat.blt 0 16 && Nat.beq 2 2 && Nat.beq 2 2 && Nat.beq 2 2 && Nat.blt 0 1 && !Nat.beq 1 2 && Nat.ble ((len + 1) * 16) 35184372088832 then
   (optK (S.rforget 100000 (cutL r lo len ++ cutL [(t, v)] 0 1) 0 (List.length (cutL r lo len ++ cutL [(t, v)] 0 1)) rw rg (if o8 > nw then o8 else nw) ov) fun o10 =>
   k (.int .i64 0) ([.var [.int .i64 o10.1, .int .i64 o10.2.1, .slice 2 2 0 o10.2.2.1 Option.none, .int .i64 o10.2.2.2.1, .bool o10.2.2.2.2.1], .dead, .rows (Cd.pair (Cd.int .i64) (Cd.int .i64)) o10.2.2.2.2.2.2 false]))
 else
   none)))) := by kernel_rfl
noncomputable def S.rput (r : RL) (lo len : Nat) (rw rg nw : Int) (ov : Bool) (t v : Int) : Option (Int × Int × Int × Nat × Nat × Int × Bool × RL) :=
  bif decide (t < 0) then
   some (1, rw, rg, lo, len, nw, ov, r)
 else
   bif decide (1099511627776 < t) then
   some (1, rw, rg, lo, len, nw, ov, r)
 else
   bif decide (v < 0) then
   some (1, rw, rg, lo, len, nw, ov, r)
 else
   (optK (S.rbucket r lo len rw rg nw ov t) fun o5 =>
   (optK (S.rN r lo len rw rg nw ov) fun o6 =>
   bif decide (o6 ≤ Go.IntKind.wrap .i64 (nw - o5)) then
   some (0, rw, rg, lo, len, nw, ov, r)
 else
   (optK (S.rbucket r lo len rw rg nw ov t) fun o8 =>
   bif Nat.beq 2 2 && Nat.blt 0 16 && Nat.beq 2 2 && Nat.beq 2 2 && Nat.beq 2 2 && Nat.blt 0 1 && !Nat.beq 1 2 && Nat.ble ((len + 1) * 16) 35184372088832 then
   (optK (S.rforget 100000 (cutL r lo len ++ cutL [(t, v)] 0 1) 0 (List.length (cutL r lo len ++ cutL [(t, v)] 0 1)) rw rg (if o8 > nw then o8 else nw) ov) fun o10 =>
   some (0, o10.1, o10.2.1, 0, o10.2.2.1, o10.2.2.2.1, o10.2.2.2.2.1, o10.2.2.2.2.2.2))
 else
   none)))
noncomputable def S.rput_gk {R : Type} (r : RL) (lo len : Nat) (rw rg nw : Int) (ov : Bool) (t v : Int) (k : AVal → List Blk → Option R) : (Int × Int × Int × Nat × Nat × Int × Bool × RL) → Option R := (fun v : Int × Int × Int × Nat × Nat × Int × Bool × RL => k (.int .i64 v.1) [(.var [(.int .i64 v.2.1), (.int .i64 v.2.2.1), (.slice 2 2 v.2.2.2.1 v.2.2.2.2.1 none), (.int .i64 v.2.2.2.2.2.1), (.bool v.2.2.2.2.2.2.1)]), .dead, (.rows (Cd.pair (Cd.int .i64) (Cd.int .i64)) v.2.2.2.2.2.2.2 false)])
theorem S.rput_v {R : Type} (r : RL) (lo len : Nat) (rw rg nw : Int) (ov : Bool) (t v : Int) (k : AVal → List Blk → Option R) : fnEval tis F35 0 G57 Try.f35 [.ptr 0 0 0, .int .i64 t, .int .i64 v] [.var [.int .i64 rw, .int .i64 rg, .slice 2 1 lo len none, .int .i64 nw, .bool ov], .rows (.pair (.int .i64) (.int .i64)) r false] k = oK (fun v : Int × Int × Int × Nat × Nat × Int × Bool × RL => k (.int .i64 v.1) [(.var [(.int .i64 v.2.1), (.int .i64 v.2.2.1), (.slice 2 2 v.2.2.2.1 v.2.2.2.2.1 none), (.int .i64 v.2.2.2.2.2.1), (.bool v.2.2.2.2.2.2.1)]), .dead, (.rows (Cd.pair (Cd.int .i64) (Cd.int .i64)) v.2.2.2.2.2.2.2 false)]) (S.rput r lo len rw rg nw ov t v) :=
  (S.rput_k r lo len rw rg nw ov t v k).trans (bif_lift (f := (oK (S.rput_gk r lo len rw rg nw ov t v k))) rfl (bif_lift (f := (oK (S.rput_gk r lo len rw rg nw ov t v k))) rfl (bif_lift (f := (oK (S.rput_gk r lo len rw rg nw ov t v k))) rfl (opt_lift fun o5 => (opt_lift fun o6 => (bif_lift (f := (oK (S.rput_gk r lo len rw rg nw ov t v k))) rfl (opt_lift fun o8 => (bif_lift (f := (oK (S.rput_gk r lo len rw rg nw ov t v k))) (opt_lift fun o10 => rfl) rfl))))))))
theorem S.rput1_k {R : Type} (rw rg nw : Int) (ov : Bool) (t v : Int) (k : AVal → List Blk → Option R) : fnEval tis F35 0 G57 Try.f35 [.ptr 0 0 0, .int .i64 t, .int .i64 v] [.var [.int .i64 rw, .int .i64 rg, .nils, .int .i64 nw, .bool ov]] k =
  (bif decide (t < 0) then
   k (.int .i64 1) ([.var [.int .i64 rw, .int .i64 rg, .slice 2 1 0 0 Option.none, .int .i64 nw, .bool ov], .rows (Cd.pair (Cd.int .i64) (Cd.int .i64)) [] false])
 else
   bif decide (1099511627776 < t) then
   k (.int .i64 1) ([.var [.int .i64 rw, .int .i64 rg, .slice 2 1 0 0 Option.none, .int .i64 nw, .bool ov], .rows (Cd.pair (Cd.int .i64) (Cd.int .i64)) [] false])
 else
   bif decide (v < 0) then
   k (.int .i64 1) ([.var [.int .i64 rw, .int .i64 rg, .slice 2 1 0 0 Option.none, .int .i64 nw, .bool ov], .rows (Cd.pair (Cd.int .i64) (Cd.int .i64)) [] false])
 else
   (optK (S.rbucket1 rw rg nw ov t) fun o5 =>
   (optK (S.rN1 rw rg nw ov) fun o6 =>
   bif decide (o6 ≤ Go.IntKind.wrap .i64 (nw - o5)) then
   k (.int .i64 0) ([.var [.int .i64 rw, .int .i64 rg, .slice 2 1 0 0 Option.none, .int .i64 nw, .bool ov], .rows (Cd.pair (Cd.int .i64) (Cd.int .i64)) [] false])
 else
   (optK (S.rbucket1 rw rg nw ov t) fun o8 =>
   (optK (S.rforget 100000 ([] ++ cutL [(t, v)] 0 1) 0 1 rw rg (if o8 > nw then o8 else nw) ov) fun o9 =>
   k (.int .i64 0) ([.var [.int .i64 o9.1, .int .i64 o9.2.1, .slice 2 1 0 o9.2.2.1 Option.none, .int .i64 o9.2.2.2.1, .bool o9.2.2.2.2.1], .rows (Cd.pair (Cd.int .i64) (Cd.int .i64)) o9.2.2.2.2.2.2 false])))))) := by kernel_rfl
noncomputable def S.rput1 (rw rg nw : Int) (ov : Bool) (t v : Int) : Option (Int × Int × Int × Nat × Int × Bool × List (Int × Int)) :=
  bif decide (t < 0) then
   some (1, rw, rg, 0, nw, ov, [])
 else
   bif decide (1099511627776 < t) then
   some (1, rw, rg, 0, nw, ov, [])
 else
   bif decide (v < 0) then
   some (1, rw, rg, 0, nw, ov, [])
 else
   (optK (S.rbucket1 rw rg nw ov t) fun o5 =>
   (optK (S.rN1 rw rg nw ov) fun o6 =>
   bif decide (o6 ≤ Go.IntKind.wrap .i64 (nw - o5)) then
   some (0, rw, rg, 0, nw, ov, [])
 else
   (optK (S.rbucket1 rw rg nw ov t) fun o8 =>
   (optK (S.rforget 100000 ([] ++ cutL [(t, v)] 0 1) 0 1 rw rg (if o8 > nw then o8 else nw) ov) fun o9 =>
   some (0, o9.1, o9.2.1, o9.2.2.1, o9.2.2.2.1, o9.2.2.2.2.1, o9.2.2.2.2.2.2)))))
noncomputable def S.rput1_gk {R : Type} (rw rg nw : Int) (ov : Bool) (t v : Int) (k : AVal → List Blk → Option R) : (Int × Int × Int × Nat × Int × Bool × List (Int × Int)) → Option R := (fun v : Int × Int × Int × Nat × Int × Bool × List (Int × Int) => k (.int .i64 v.1) [(.var [(.int .i64 v.2.1), (.int .i64 v.2.2.1), (.slice 2 1 (0) v.2.2.2.1 none), (.int .i64 v.2.2.2.2.1), (.bool v.2.2.2.2.2.1)]), (.rows (Cd.pair (Cd.int .i64) (Cd.int .i64)) v.2.2.2.2.2.2 false)])
theorem S.rput1_v {R : Type} (rw rg nw : Int) (ov : Bool) (t v : Int) (k : AVal → List Blk → Option R) : fnEval tis F35 0 G57 Try.f35 [.ptr 0 0 0, .int .i64 t, .int .i64 v] [.var [.int .i64 rw, .int .i64 rg, .nils, .int .i64 nw, .bool ov]] k = oK (fun v : Int × Int × Int × Nat × Int × Bool × List (Int × Int) => k (.int .i64 v.1) [(.var [(.int .i64 v.2.1), (.int .i64 v.2.2.1), (.slice 2 1 (0) v.2.2.2.1 none), (.int .i64 v.2.2.2.2.1), (.bool v.2.2.2.2.2.1)]), (.rows (Cd.pair (Cd.int .i64) (Cd.int .i64)) v.2.2.2.2.2.2 false)]) (S.rput1 rw rg nw ov t v) :=
  (S.rput1_k rw rg nw ov t v k).trans (bif_lift (f := (oK (S.rput1_gk rw rg nw ov t v k))) rfl (bif_lift (f := (oK (S.rput1_gk rw rg nw ov t v k))) rfl (bif_lift (f := (oK (S.rput1_gk rw rg nw ov t v k))) rfl (opt_lift fun o5 => (opt_lift fun o6 => (bif_lift (f := (oK (S.rput1_gk rw rg nw ov t v k))) rfl (opt_lift fun o8 => (opt_lift fun o9 => rfl))))))))
noncomputable def H35 : Hnd := fun R args σ k => match args, σ with
  | [.ptr 0 0 0, .int .i64 t, .int .i64 v], [.var [.int .i64 rw, .int .i64 rg, .slice 2 1 lo len none, .int .i64 nw, .bool ov], .rows (.pair (.int .i64) (.int .i64)) r false] => oK (fun v : Int × Int × Int × Nat × Nat × Int × Bool × RL => k (.int .i64 v.1) [(.var [(.int .i64 v.2.1), (.int .i64 v.2.2.1), (.slice 2 2 v.2.2.2.1 v.2.2.2.2.1 none), (.int .i64 v.2.2.2.2.2.1), (.bool v.2.2.2.2.2.2.1)]), .dead, (.rows (Cd.pair (Cd.int .i64) (Cd.int .i64)) v.2.2.2.2.2.2.2 false)]) (S.rput r lo len rw rg nw ov t v)
  | [.ptr 0 0 0, .int .i64 t, .int .i64 v], [.var [.int .i64 rw, .int .i64 rg, .nils, .int .i64 nw, .bool ov]] => oK (fun v : Int × Int × Int × Nat × Int × Bool × List (Int × Int) => k (.int .i64 v.1) [(.var [(.int .i64 v.2.1), (.int .i64 v.2.2.1), (.slice 2 1 (0) v.2.2.2.1 none), (.int .i64 v.2.2.2.2.1), (.bool v.2.2.2.2.2.1)]), (.rows (Cd.pair (Cd.int .i64) (Cd.int .i64)) v.2.2.2.2.2.2 false)]) (S.rput1 rw rg nw ov t v)
  | _, _ => none
theorem H35_ok : HndOk Try.prog 35 H35 := hnd_ok tis tisOk mixOk G57_ok F35 Try.func35 rfl (by
  intro R args σ k r h
  unfold H35 at h
  split at h
  · rename_i t v rw rg lo len nw ov r; exact ⟨0, (S.rput_v r lo len rw rg nw ov t v _).trans h⟩
  · rename_i t v rw rg nw ov; exact ⟨0, (S.rput1_v rw rg nw ov t v _).trans h⟩
  · cases h)
noncomputable def G35 : Env := Env.add 35 H35 G57
theorem G35_ok : EnvOk Try.prog G35 := envAdd_ok H35_ok G57_ok

/-! (*spinnakerref5.Ring).Sum -/
def F39 : FCfg := ⟨keepAt [(0, [0, 1]), (1, [0, 1, 6, 7]), (2, [0, 1, 6, 7, 8]), (3, [0, 1, 6, 7, 8, 22]), (4, [0, 1, 6, 7, 8]), (5, [0, 1, 6, 7, 8, 9]), (6, [0, 1, 6, 7, 8, 46]), (7, [0, 1, 7, 8, 10, 11]), (8, [0, 1, 7, 8, 10]), (9, [0, 1, 6, 7, 8]), (10, [4, 5])], loopAt [(3, [0, 1, 6, 7, 8], [])], []⟩
noncomputable def C_rsum (fu : Nat) (r : RL) (lo len : Nat) (rw rg nw : Int) (ov : Bool) (t : Int) : Cfg := Cfg.of tis F39 fu (List.length ([.var [.int .i64 rw, .int .i64 rg, .slice 2 1 lo len none, .int .i64 nw, .bool ov], .rows (.pair (.int .i64) (.int .i64)) r false] : List Blk)) Try.f39.ntmps
noncomputable def S.rsum_b0 : Code := codeAt (bodyOf Try.f39) [1, 1, 0, 1, 0, 0]
noncomputable def S.rsum_s0 (r : RL) (lo len : Nat) (rw rg nw : Int) (ov : Bool) (t : Int) (y0 : Int) (y1 : Int) (y2 : Int) (y3 : Bool) : St := ⟨[(0, (.ptr 0 (0) 0)), (1, (.int .i64 (t))), (6, (.int .i64 (y0))), (7, (.int .i64 (y1))), (8, (.int .i64 (y2)))], [(.var [(.int .i64 (rw)), (.int .i64 (rg)), (.slice 2 1 (lo) (len) none), (.int .i64 (nw)), (.bool (y3))]), (.rows (Cd.pair (Cd.int .i64) (Cd.int .i64)) (r) false)]⟩
noncomputable def S.rsum_x0_0 (r : RL) (lo len : Nat) (rw rg nw : Int) (ov : Bool) (t : Int) (z0 : Int) (z1 : Int) (z2 : Int) (z3 : Bool) (z4 : Bool) : St := ⟨[(0, (.ptr 0 (0) 0)), (1, (.int .i64 (t))), (6, (.int .i64 (z0))), (7, (.int .i64 (z1))), (8, (.int .i64 (z2))), (22, (.bool (z3)))], [(.var [(.int .i64 (rw)), (.int .i64 (rg)), (.slice 2 1 (lo) (len) none), (.int .i64 (nw)), (.bool (z4))]), (.rows (Cd.pair (Cd.int .i64) (Cd.int .i64)) (r) false)]⟩
noncomputable def S.rsum_g0 {R : Type} (r : RL) (lo len : Nat) (rw rg nw : Int) (ov : Bool) (t : Int) (K : Ex → St → Option R) : ((Int × Int × Int × Bool × Bool)) → Option R := (fun z : Int × Int × Int × Bool × Bool => K (Ex.exit 0) (S.rsum_x0_0 r lo len rw rg nw ov t (z.1) (z.2.1) (z.2.2.1) (z.2.2.2.1) (z.2.2.2.2)))
noncomputable def S.rsum_gk {R : Type} (r : RL) (lo len : Nat) (rw rg nw : Int) (ov : Bool) (t : Int) (k : AVal → List Blk → Option R) : (Int × Int × Int × Int × Nat × Nat × Int × Bool × RL) → Option R := (fun v : Int × Int × Int × Int × Nat × Nat × Int × Bool × RL => k (.tuple [(.int .i64 v.1), (.int .i64 v.2.1)]) [(.var [(.int .i64 v.2.2.1), (.int .i64 v.2.2.2.1), (.slice 2 1 v.2.2.2.2.1 v.2.2.2.2.2.1 none), (.int .i64 v.2.2.2.2.2.2.1), (.bool v.2.2.2.2.2.2.2.1)]), (.rows (Cd.pair (Cd.int .i64) (Cd.int .i64)) v.2.2.2.2.2.2.2.2 false)])
theorem S.rsum_l0_k {R : Type} (fu : Nat) (r : RL) (lo len : Nat) (rw rg nw : Int) (ov : Bool) (t : Int) (n : Nat) (K : Ex → St → Option R) (y0 : Int) (y1 : Int) (y2 : Int) (y3 : Bool) : loopRun (C_rsum fu r lo len rw rg nw ov t) G35 S.rsum_b0 (n + 1) (S.rsum_s0 r lo len rw rg nw ov t (y0) (y1) (y2) (y3)) K =
  (bif decide (y2 < ((len : Nat) : Int)) then
   bif decide (0 ≤ t) then
   (optK (S.rbucket r lo len rw rg nw y3 t) fun o4 =>
   bif inB y2 len then
   (optK (r[Int.toNat y2 + lo]?) fun o6 =>
   (optK (S.rbucket r lo len rw rg nw y3 o6.1) fun o7 =>
   bif decide (Go.IntKind.wrap .i64 (o4 - o7) < 0) then
   loopRun (C_rsum fu r lo len rw rg nw ov t) G35 S.rsum_b0 n (S.rsum_s0 r lo len rw rg nw ov t (y0) (y1) (Go.IntKind.wrap .i64 (y2 + 1)) (y3)) K
 else
   (optK (S.rN r lo len rw rg nw y3) fun o9 =>
   bif decide (o9 ≤ Go.IntKind.wrap .i64 (o4 - o7)) then
   loopRun (C_rsum fu r lo len rw rg nw ov t) G35 S.rsum_b0 n (S.rsum_s0 r lo len rw rg nw ov t (y0) (y1) (Go.IntKind.wrap .i64 (y2 + 1)) (y3)) K
 else
   bif inB y2 len then
   (optK (r[Int.toNat y2 + lo]?) fun o12 =>
   bif y3 then
   loopRun (C_rsum fu r lo len rw rg nw ov t) G35 S.rsum_b0 n (S.rsum_s0 r lo len rw rg nw ov t (Prod.fst (S.radd y0 o12.2)) (Go.IntKind.wrap .i64 (y1 + 1)) (Go.IntKind.wrap .i64 (y2 + 1)) (true)) K
 else
   loopRun (C_rsum fu r lo len rw rg nw ov t) G35 S.rsum_b0 n (S.rsum_s0 r lo len rw rg nw ov t (Prod.fst (S.radd y0 o12.2)) (Go.IntKind.wrap .i64 (y1 + 1)) (Go.IntKind.wrap .i64 (y2 + 1)) (!decide (Prod.snd (S.radd y0 o12.2) = 0))) K)
 else
   none)))
 else
   none)
 else
   K (Ex.exit 0) (S.rsum_x0_0 r lo len rw rg nw ov t (y0) (y1) (y2) (decide (0 ≤ t)) (y3))
 else
   K (Ex.exit 0) (S.rsum_x0_0 r lo len rw rg nw ov t (y0) (y1) (y2) (false) (y3))) := by kernel_rfl
noncomputable def S.rsum_l0 (fu : Nat) (r : RL) (lo len : Nat) (rw rg nw : Int) (ov : Bool) (t : Int) : Nat → (Int) → (Int) → (Int) → (Bool) → Option ((Int × Int × Int × Bool × Bool))
  | 0, _, _, _, _ => none
  | n + 1, y0, y1, y2, y3 =>
    bif decide (y2 < ((len : Nat) : Int)) then
   bif decide (0 ≤ t) then
   (optK (S.rbucket r lo len rw rg nw y3 t) fun o4 =>
   bif inB y2 len then
   (optK (r[Int.toNat y2 + lo]?) fun o6 =>
   (optK (S.rbucket r lo len rw rg nw y3 o6.1) fun o7 =>
   bif decide (Go.IntKind.wrap .i64 (o4 - o7) < 0) then
   (S.rsum_l0 fu r lo len rw rg nw ov t n) (y0) (y1) (Go.IntKind.wrap .i64 (y2 + 1)) (y3)
 else
   (optK (S.rN r lo len rw rg nw y3) fun o9 =>
   bif decide (o9 ≤ Go.IntKind.wrap .i64 (o4 - o7)) then
   (S.rsum_l0 fu r lo len rw rg nw ov t n) (y0) (y1) (Go.IntKind.wrap .i64 (y2 + 1)) (y3)
 else
   bif inB y2 len then
   (optK (r[Int.toNat y2 + lo]?) fun o12 =>
   bif y3 then
   (S.rsum_l0 fu r lo len rw rg nw ov t n) (Prod.fst (S.radd y0 o12.2)) (Go.IntKind.wrap .i64 (y1 + 1)) (Go.IntKind.wrap .i64 (y2 + 1)) (true)
 else
   (S.rsum_l0 fu r lo len rw rg nw ov t n) (Prod.fst (S.radd y0 o12.2)) (Go.IntKind.wrap .i64 (y1 + 1)) (Go.IntKind.wrap .i64 (y2 + 1)) (!decide (Prod.snd (S.radd y0 o12.2) = 0)))
 else
   none)))
 else
   none)
 else
   some (y0, y1, y2, decide (0 ≤ t), y3)
 else
   some (y0, y1, y2, false, y3)
theorem S.rsum_l0_v {R : Type} (fu : Nat) (r : RL) (lo len : Nat) (rw rg nw : Int) (ov : Bool) (t : Int) (K : Ex → St → Option R) : ∀ (n : Nat) (y0 : Int) (y1 : Int) (y2 : Int) (y3 : Bool), loopRun (C_rsum fu r lo len rw rg nw ov t) G35 S.rsum_b0 n (S.rsum_s0 r lo len rw rg nw ov t (y0) (y1) (y2) (y3)) K = oK (β := (Int × Int × Int × Bool × Bool)) (S.rsum_g0 r lo len rw rg nw ov t K) (S.rsum_l0 fu r lo len rw rg nw ov t n y0 y1 y2 y3)
  | 0, _, _, _, _ => rfl
  | n + 1, y0, y1, y2, y3 => (S.rsum_l0_k fu r lo len rw rg nw ov t n K y0 y1 y2 y3).trans (bif_lift (f := (oK (S.rsum_g0 r lo len rw rg nw ov t K))) (bif_lift (f := (oK (S.rsum_g0 r lo len rw rg nw ov t K))) (opt_lift fun o4 => (bif_lift (f := (oK (S.rsum_g0 r lo len rw rg nw ov t K))) (opt_lift fun o6 => (opt_lift fun o7 => (bif_lift (f := (oK (S.rsum_g0 r lo len rw rg nw ov t K))) (S.rsum_l0_v fu r lo len rw rg nw ov t K n (y0) (y1) (Go.IntKind.wrap .i64 (y2 + 1)) (y3)) (opt_lift fun o9 => (bif_lift (f := (oK (S.rsum_g0 r lo len rw rg nw ov t K))) (S.rsum_l0_v fu r lo len rw rg nw ov t K n (y0) (y1) (Go.IntKind.wrap .i64 (y2 + 1)) (y3)) (bif_lift (f := (oK (S.rsum_g0 r lo len rw rg nw ov t K))) (opt_lift fun o12 => (bif_lift (f := (oK (S.rsum_g0 r lo len rw rg nw ov t K))) (S.rsum_l0_v fu r lo len rw rg nw ov t K n (Prod.fst (S.radd y0 o12.2)) (Go.IntKind.wrap .i64 (y1 + 1)) (Go.IntKind.wrap .i64 (y2 + 1)) (true)) (S.rsum_l0_v fu r lo len rw rg nw ov t K n (Prod.fst (S.radd y0 o12.2)) (Go.IntKind.wrap .i64 (y1 + 1)) (Go.IntKind.wrap .i64 (y2 + 1)) (!decide (Prod.snd (S.radd y0 o12.2) = 0))))) rfl)))))) rfl)) rfl) rfl)
theorem S.rsum_a0_0_k {R : Type} (fu : Nat) (r : RL) (lo len : Nat) (rw rg nw : Int) (ov : Bool) (t : Int) (z0 : Int) (z1 : Int) (z2 : Int) (z3 : Bool) (z4 : Bool) (k : AVal → List Blk → Option R) : contOf (C_rsum fu r lo len rw rg nw ov t) G35 (bodyOf Try.f39) [1, 1, 0, 1, 0] (retK tis F39 Try.f39 (List.length ([.var [.int .i64 rw, .int .i64 rg, .slice 2 1 lo len none, .int .i64 nw, .bool ov], .rows (.pair (.int .i64) (.int .i64)) r false] : List Blk)) k) (Ex.exit 0) (S.rsum_x0_0 r lo len rw rg nw ov t (z0) (z1) (z2) (z3) (z4)) =
  (k (.tuple [.int .i64 z0, .int .i64 z1]) ([.var [.int .i64 rw, .int .i64 rg, .slice 2 1 lo len Option.none, .int .i64 nw, .bool z4], .rows (Cd.pair (Cd.int .i64) (Cd.int .i64)) r false])) := by kernel_rfl
noncomputable def S.rsum_a0_0 (fu : Nat) (r : RL) (lo len : Nat) (rw rg nw : Int) (ov : Bool) (t : Int) (z0 : Int) (z1 : Int) (z2 : Int) (z3 : Bool) (z4 : Bool) : Option (Int × Int × Int × Int × Nat × Nat × Int × Bool × RL) :=
  some (z0, z1, rw, rg, lo, len, nw, z4, r)
theorem S.rsum_a0_0_v {R : Type} (fu : Nat) (r : RL) (lo len : Nat) (rw rg nw : Int) (ov : Bool) (t : Int) (z0 : Int) (z1 : Int) (z2 : Int) (z3 : Bool) (z4 : Bool) (k : AVal → List Blk → Option R) : contOf (C_rsum fu r lo len rw rg nw ov t) G35 (bodyOf Try.f39) [1, 1, 0, 1, 0] (retK tis F39 Try.f39 (List.length ([.var [.int .i64 rw, .int .i64 rg, .slice 2 1 lo len none, .int .i64 nw, .bool ov], .rows (.pair (.int .i64) (.int .i64)) r false] : List Blk)) k) (Ex.exit 0) (S.rsum_x0_0 r lo len rw rg nw ov t (z0) (z1) (z2) (z3) (z4)) = oK (S.rsum_gk r lo len rw rg nw ov t k) (S.rsum_a0_0 fu r lo len rw rg nw ov t z0 z1 z2 z3 z4) :=
  (S.rsum_a0_0_k fu r lo len rw rg nw ov t z0 z1 z2 z3 z4 k).trans rfl
theorem S.rsum_k {R : Type} (fu : Nat) (r : RL) (lo len : Nat) (rw rg nw : Int) (ov : Bool) (t : Int) (k : AVal → List Blk → Option R) : fnEval tis F39 fu G35 Try.f39 [.ptr 0 0 0, .int .i64 t] [.var [.int .i64 rw, .int .i64 rg, .slice 2 1 lo len none, .int .i64 nw, .bool ov], .rows (.pair (.int .i64) (.int .i64)) r false] k =
  (loopRun (C_rsum fu r lo len rw rg nw ov t) G35 S.rsum_b0 fu (S.rsum_s0 r lo len rw rg nw ov t (0) (0) (0) (ov)) (contOf (C_rsum fu r lo len rw rg nw ov t) G35 (bodyOf Try.f39) [1, 1, 0, 1, 0] (retK tis F39 Try.f39 (List.length ([.var [.int .i64 rw, .int .i64 rg, .slice 2 1 lo len none, .int .i64 nw, .bool ov], .rows (.pair (.int .i64) (.int .i64)) r false] : List Blk)) k))) := by kernel_rfl
noncomputable def S.rsum (fu : Nat) (r : RL) (lo len : Nat) (rw rg nw : Int) (ov : Bool) (t : Int) : Option (Int × Int × Int × Int × Nat × Nat × Int × Bool × RL) :=
  optK (S.rsum_l0 fu r lo len rw rg nw ov t fu (0) (0) (0) (ov)) (fun z : Int × Int × Int × Bool × Bool => S.rsum_a0_0 fu r lo len rw rg nw ov t (z.1) (z.2.1) (z.2.2.1) (z.2.2.2.1) (z.2.2.2.2))
theorem S.rsum_v {R : Type} (fu : Nat) (r : RL) (lo len : Nat) (rw rg nw : Int) (ov : Bool) (t : Int) (k : AVal → List Blk → Option R) : fnEval tis F39 fu G35 Try.f39 [.ptr 0 0 0, .int .i64 t] [.var [.int .i64 rw, .int .i64 rg, .slice 2 1 lo len none, .int .i64 nw, .bool ov], .rows (.pair (.int .i64) (.int .i64)) r false] k = oK (fun v : Int × Int × Int × Int × Nat × Nat × Int × Bool × RL => k (.tuple [(.int .i64 v.1), (.int .i64 v.2.1)]) [(.var [(.int .i64 v.2.2.1), (.int .i64 v.2.2.2.1), (.slice 2 1 v.2.2.2.2.1 v.2.2.2.2.2.1 none), (.int .i64 v.2.2.2.2.2.2.1), (.bool v.2.2.2.2.2.2.2.1)]), (.rows (Cd.pair (Cd.int .i64) (Cd.int .i64)) v.2.2.2.2.2.2.2.2 false)]) (S.rsum fu r lo len rw rg nw ov t) :=
  (S.rsum_k fu r lo len rw rg nw ov t k).trans (arr_lift (S.rsum_l0_v fu r lo len rw rg nw ov t (contOf (C_rsum fu r lo len rw rg nw ov t) G35 (bodyOf Try.f39) [1, 1, 0, 1, 0] (retK tis F39 Try.f39 (List.length ([.var [.int .i64 rw, .int .i64 rg, .slice 2 1 lo len none, .int .i64 nw, .bool ov], .rows (.pair (.int .i64) (.int .i64)) r false] : List Blk)) k)) fu (0) (0) (0) (ov)) ((fun z => S.rsum_a0_0_v fu r lo len rw rg nw ov t (z.1) (z.2.1) (z.2.2.1) (z.2.2.2.1) (z.2.2.2.2) k)))
noncomputable def C_rsum1 (fu : Nat) (rw rg nw : Int) (ov : Bool) (t : Int) : Cfg := Cfg.of tis F39 fu (List.length ([.var [.int .i64 rw, .int .i64 rg, .nils, .int .i64 nw, .bool ov]] : List Blk)) Try.f39.ntmps
noncomputable def S.rsum1_b0 : Code := codeAt (bodyOf Try.f39) [1, 1, 0, 1, 0, 0]
noncomputable def S.rsum1_s0 (rw rg nw : Int) (ov : Bool) (t : Int)  : St := ⟨[(0, (.ptr 0 (0) 0)), (1, (.int .i64 (t))), (6, (.int .i64 (0))), (7, (.int .i64 (0))), (8, (.int .i64 (0)))], [(.var [(.int .i64 (rw)), (.int .i64 (rg)), .nils, (.int .i64 (nw)), (.bool (ov))])]⟩
noncomputable def S.rsum1_x0_0 (rw rg nw : Int) (ov : Bool) (t : Int)  : St := ⟨[(0, (.ptr 0 (0) 0)), (1, (.int .i64 (t))), (6, (.int .i64 (0))), (7, (.int .i64 (0))), (8, (.int .i64 (0))), (22, (.bool (false)))], [(.var [(.int .i64 (rw)), (.int .i64 (rg)), .nils, (.int .i64 (nw)), (.bool (ov))])]⟩
noncomputable def S.rsum1_g0 {R : Type} (rw rg nw : Int) (ov : Bool) (t : Int) (K : Ex → St → Option R) : ((Unit)) → Option R := (fun z : Unit => K (Ex.exit 0) (S.rsum1_x0_0 rw rg nw ov t))
noncomputable def S.rsum1_gk {R : Type} (rw rg nw : Int) (ov : Bool) (t : Int) (k : AVal → List Blk → Option R) : (Int × Int × Int × Int × Int × Bool) → Option R := (fun v : Int × Int × Int × Int × Int × Bool => k (.tuple [(.int .i64 v.1), (.int .i64 v.2.1)]) [(.var [(.int .i64 v.2.2.1), (.int .i64 v.2.2.2.1), .nils, (.int .i64 v.2.2.2.2.1), (.bool v.2.2.2.2.2)])])
theorem S.rsum1_l0_k {R : Type} (fu : Nat) (rw rg nw : Int) (ov : Bool) (t : Int) (n : Nat) (K : Ex → St → Option R)  : loopRun (C_rsum1 fu rw rg nw ov t) G35 S.rsum1_b0 (n + 1) (S.rsum1_s0 rw rg nw ov t) K =
  (K (Ex.exit 0) (S.rsum1_x0_0 rw rg nw ov t)) := by kernel_rfl
noncomputable def S.rsum1_l0 (fu : Nat) (rw rg nw : Int) (ov : Bool) (t : Int) : Nat → Option ((Unit))
  | 0 => none
  | n + 1 =>
    some ()
theorem S.rsum1_l0_v {R : Type} (fu : Nat) (rw rg nw : Int) (ov : Bool) (t : Int) (K : Ex → St → Option R) : ∀ (n : Nat) , loopRun (C_rsum1 fu rw rg nw ov t) G35 S.rsum1_b0 n (S.rsum1_s0 rw rg nw ov t) K = oK (β := (Unit)) (S.rsum1_g0 rw rg nw ov t K) (S.rsum1_l0 fu rw rg nw ov t n)
  | 0 => rfl
  | n + 1 => (S.rsum1_l0_k fu rw rg nw ov t n K).trans rfl
theorem S.rsum1_a0_0_k {R : Type} (fu : Nat) (rw rg nw : Int) (ov : Bool) (t : Int)  (k : AVal → List Blk → Option R) : contOf (C_rsum1 fu rw rg nw ov t) G35 (bodyOf Try.f39) [1, 1, 0, 1, 0] (retK tis F39 Try.f39 (List.length ([.var [.int .i64 rw, .int .i64 rg, .nils, .int .i64 nw, .bool ov]] : List Blk)) k) (Ex.exit 0) (S.rsum1_x0_0 rw rg nw ov t) =
  (k (.tuple [.int .i64 0, .int .i64 0]) ([.var [.int .i64 rw, .int .i64 rg, .nils, .int .i64 nw, .bool ov]])) := by kernel_rfl
noncomputable def S.rsum1_a0_0 (fu : Nat) (rw rg nw : Int) (ov : Bool) (t : Int)  : Option (Int × Int × Int × Int × Int × Bool) :=
  some (0, 0, rw, rg, nw, ov)
theorem S.rsum1_a0_0_v {R : Type} (fu : Nat) (rw rg nw : Int) (ov : Bool) (t : Int)  (k : AVal → List Blk → Option R) : contOf (C_rsum1 fu rw rg nw ov t) G35 (bodyOf Try.f39) [1, 1, 0, 1, 0] (retK tis F39 Try.f39 (List.length ([.var [.int .i64 rw, .int .i64 rg, .nils, .int .i64 nw, .bool ov]] : List Blk)) k) (Ex.exit 0) (S.rsum1_x0_0 rw rg nw ov t) = oK (S.rsum1_gk rw rg nw ov t k) (S.rsum1_a0_0 fu rw rg nw ov t) :=
  (S.rsum1_a0_0_k fu rw rg nw ov t k).trans rfl
theorem S.rsum1_k {R : Type} (fu : Nat) (rw rg nw : Int) (ov : Bool) (t : Int) (k : AVal → List Blk → Option R) : fnEval tis F39 fu G35 Try.f39 [.ptr 0 0 0, .int .i64 t] [.var [.int .i64 rw, .int .i64 rg, .nils, .int .i64 nw, .bool ov]] k =
  (loopRun (C_rsum1 fu rw rg nw ov t) G35 S.rsum1_b0 fu (S.rsum1_s0 rw rg nw ov t) (contOf (C_rsum1 fu rw rg nw ov t) G35 (bodyOf Try.f39) [1, 1, 0, 1, 0] (retK tis F39 Try.f39 (List.length ([.var [.int .i64 rw, .int .i64 rg, .nils, .int .i64 nw, .bool ov]] : List Blk)) k))) := by kernel_rfl
noncomputable def S.rsum1 (fu : Nat) (rw rg nw : Int) (ov : Bool) (t : Int) : Option (Int × Int × Int × Int × Int × Bool) :=
  optK (S.rsum1_l0 fu rw rg nw ov t fu) (fun z : Unit => S.rsum1_a0_0 fu rw rg nw ov t)
theorem S.rsum1_v {R : Type} (fu : Nat) (rw rg nw : Int) (ov : Bool) (t : Int) (k : AVal → List Blk → Option R) : fnEval tis F39 fu G35 Try.f39 [.ptr 0 0 0, .int .i64 t] [.var [.int .i64 rw, .int .i64 rg, .nils, .int .i64 nw, .bool ov]] k = oK (fun v : Int × Int × Int × Int × Int × Bool => k (.tuple [(.int .i64 v.1), (.int .i64 v.2.1)]) [(.var [(.int .i64 v.2.2.1), (.int .i64 v.2.2.2.1), .nils, (.int .i64 v.2.2.2.2.1), (.bool v.2.2.2.2.2)])]) (S.rsum1 fu rw rg nw ov t) :=
  (S.rsum1_k fu rw rg nw ov t k).trans (arr_lift (S.rsum1_l0_v fu rw rg nw ov t (contOf (C_rsum1 fu rw rg nw ov t) G35 (bodyOf Try.f39) [1, 1, 0, 1, 0] (retK tis F39 Try.f39 (List.length ([.var [.int .i64 rw, .int .i64 rg, .nils, .int .i64 nw, .bool ov]] : List Blk)) k)) fu) ((fun z => S.rsum1_a0_0_v fu rw rg nw ov t k)))
noncomputable def H39 : Hnd := fun R args σ k => match args, σ with
  | [.ptr 0 0 0, .int .i64 t], [.var [.int .i64 rw, .int .i64 rg, .slice 2 1 lo len none, .int .i64 nw, .bool ov], .rows (.pair (.int .i64) (.int .i64)) r false] => oK (fun v : Int × Int × Int × Int × Nat × Nat × Int × Bool × RL => k (.tuple [(.int .i64 v.1), (.int .i64 v.2.1)]) [(.var [(.int .i64 v.2.2.1), (.int .i64 v.2.2.2.1), (.slice 2 1 v.2.2.2.2.1 v.2.2.2.2.2.1 none), (.int .i64 v.2.2.2.2.2.2.1), (.bool v.2.2.2.2.2.2.2.1)]), (.rows (Cd.pair (Cd.int .i64) (Cd.int .i64)) v.2.2.2.2.2.2.2.2 false)]) (S.rsum 100000 r lo len rw rg nw ov t)
  | [.ptr 0 0 0, .int .i64 t], [.var [.int .i64 rw, .int .i64 rg, .nils, .int .i64 nw, .bool ov]] => oK (fun v : Int × Int × Int × Int × Int × Bool => k (.tuple [(.int .i64 v.1), (.int .i64 v.2.1)]) [(.var [(.int .i64 v.2.2.1), (.int .i64 v.2.2.2.1), .nils, (.int .i64 v.2.2.2.2.1), (.bool v.2.2.2.2.2)])]) (S.rsum1 100000 rw rg nw ov t)
  | _, _ => none
theorem H39_ok : HndOk Try.prog 39 H39 := hnd_ok tis tisOk mixOk G35_ok F39 Try.func39 rfl (by
  intro R args σ k r h
  unfold H39 at h
  split at h
  · rename_i t rw rg lo len nw ov r; exact ⟨100000, (S.rsum_v 100000 r lo len rw rg nw ov t _).trans h⟩
  · rename_i t rw rg nw ov; exact ⟨100000, (S.rsum1_v 100000 rw rg nw ov t _).trans h⟩
  · cases h)
noncomputable def G39 : Env := Env.add 39 H39 G35
theorem G39_ok : EnvOk Try.prog G39 := envAdd_ok H39_ok G35_ok

/-! (*spinnakerref5.Ring).Mean -/
def F19 : FCfg := ⟨keepAt [(0, [0, 1]), (1, [5, 6]), (2, [5, 6, 14]), (3, [4]), (4, [4])], loopAt [], []⟩
theorem S.rmean_k {R : Type} (r : RL) (lo len : Nat) (rw rg nw : Int) (ov : Bool) (t : Int) (k : AVal → List Blk → Option R) : fnEval tis F19 0 G39 Try.f19 [.ptr 0 0 0, .int .i64 t] [.var [.int .i64 rw, .int .i64 rg, .slice 2 1 lo len none, .int .i64 nw, .bool ov], .rows (.pair (.int .i64) (.int .i64)) r false] k =
  ((optK (S.rsum 100000 r lo len rw rg nw ov t) fun o2 =>
   bif decide (o2.2.1 = 0) then
   k (.int .i64 0) ([.var [.int .i64 o2.2.2.1, .int .i64 o2.2.2.2.1, .slice 2 1 o2.2.2.2.2.1 o2.2.2.2.2.2.1 Option.none, .int .i64 o2.2.2.2.2.2.2.1, .bool o2.2.2.2.2.2.2.2.1], .rows (Cd.pair (Cd.int .i64) (Cd.int .i64)) o2.2.2.2.2.2.2.2.2 false])
 else
   bif decide (o2.2.1 = 0) then
   none
 else
   k (.int .i64 (Go.IntKind.wrap .i64 (Int.tdiv o2.1 o2.2.1))) ([.var [.int .i64 o2.2.2.1, .int .i64 o2.2.2.2.1, .slice 2 1 o2.2.2.2.2.1 o2.2.2.2.2.2.1 Option.none, .int .i64 o2.2.2.2.2.2.2.1, .bool o2.2.2.2.2.2.2.2.1], .rows (Cd.pair (Cd.int .i64) (Cd.int .i64)) o2.2.2.2.2.2.2.2.2 false]))) := by kernel_rfl
noncomputable def S.rmean (r : RL) (lo len : Nat) (rw rg nw : Int) (ov : Bool) (t : Int) : Option (Int × Int × Int × Nat × Nat × Int × Bool × List (Int × Int)) :=
  (optK (S.rsum 100000 r lo len rw rg nw ov t) fun o2 =>
   bif decide (o2.2.1 = 0) then
   some (0, o2.2.2.1, o2.2.2.2.1, o2.2.2.2.2.1, o2.2.2.2.2.2.1, o2.2.2.2.2.2.2.1, o2.2.2.2.2.2.2.2.1, o2.2.2.2.2.2.2.2.2)
 else
   bif decide (o2.2.1 = 0) then
   none
 else
   some (Go.IntKind.wrap .i64 (Int.tdiv o2.1 o2.2.1), o2.2.2.1, o2.2.2.2.1, o2.2.2.2.2.1, o2.2.2.2.2.2.1, o2.2.2.2.2.2.2.1, o2.2.2.2.2.2.2.2.1, o2.2.2.2.2.2.2.2.2))
noncomputable def S.rmean_gk {R : Type} (r : RL) (lo len : Nat) (rw rg nw : Int) (ov : Bool) (t : Int) (k : AVal → List Blk → Option R) : (Int × Int × Int × Nat × Nat × Int × Bool × List (Int × Int)) → Option R := (fun v : Int × Int × Int × Nat × Nat × Int × Bool × List (Int × Int) => k (.int .i64 v.1) [(.var [(.int .i64 v.2.1), (.int .i64 v.2.2.1), (.slice 2 1 v.2.2.2.1 v.2.2.2.2.1 none), (.int .i64 v.2.2.2.2.2.1), (.bool v.2.2.2.2.2.2.1)]), (.rows (Cd.pair (Cd.int .i64) (Cd.int .i64)) v.2.2.2.2.2.2.2 false)])
theorem S.rmean_v {R : Type} (r : RL) (lo len : Nat) (rw rg nw : Int) (ov : Bool) (t : Int) (k : AVal → List Blk → Option R) : fnEval tis F19 0 G39 Try.f19 [.ptr 0 0 0, .int .i64 t] [.var [.int .i64 rw, .int .i64 rg, .slice 2 1 lo len none, .int .i64 nw, .bool ov], .rows (.pair (.int .i64) (.int .i64)) r false] k = oK (fun v : Int × Int × Int × Nat × Nat × Int × Bool × List (Int × Int) => k (.int .i64 v.1) [(.var [(.int .i64 v.2.1), (.int .i64 v.2.2.1), (.slice 2 1 v.2.2.2.1 v.2.2.2.2.1 none), (.int .i64 v.2.2.2.2.2.1), (.bool v.2.2.2.2.2.2.1)]), (.rows (Cd.pair (Cd.int .i64) (Cd.int .i64)) v.2.2.2.2.2.2.2 false)]) (S.rmean r lo len rw rg nw ov t) :=
  (S.rmean_k r lo len rw rg nw ov t k).trans (opt_lift fun o2 => (bif_lift (f := (oK (S.rmean_gk r lo len rw rg nw ov t k))) rfl (bif_lift (f := (oK (S.rmean_gk r lo len rw rg nw ov t k))) rfl rfl)))
theorem S.rmean1_k {R : Type} (rw rg nw : Int) (ov : Bool) (t : Int) (k : AVal → List Blk → Option R) : fnEval tis F19 0 G39 Try.f19 [.ptr 0 0 0, .int .i64 t] [.var [.int .i64 rw, .int .i64 rg, .nils, .int .i64 nw, .bool ov]] k =
  (k (.int .i64 0) ([.var [.int .i64 rw, .int .i64 rg, .nils, .int .i64 nw, .bool ov]])) := by kernel_rfl
noncomputable def S.rmean1 (rw rg nw : Int) (ov : Bool) (t : Int) : Int × Int × Int × Int × Bool :=
  (0, rw, rg, nw, ov)
theorem S.rmean1_v {R : Type} (rw rg nw : Int) (ov : Bool) (t : Int) (k : AVal → List Blk → Option R) : fnEval tis F19 0 G39 Try.f19 [.ptr 0 0 0, .int .i64 t] [.var [.int .i64 rw, .int .i64 rg, .nils, .int .i64 nw, .bool ov]] k = k (.int .i64 (S.rmean1 rw rg nw ov t).1) [(.var [(.int .i64 (S.rmean1 rw rg nw ov t).2.1), (.int .i64 (S.rmean1 rw rg nw ov t).2.2.1), .nils, (.int .i64 (S.rmean1 rw rg nw ov t).2.2.2.1), (.bool (S.rmean1 rw rg nw ov t).2.2.2.2)])] :=
  (S.rmean1_k rw rg nw ov t k).trans rfl
noncomputable def H19 : Hnd := fun R args σ k => match args, σ with
  | [.ptr 0 0 0, .int .i64 t], [.var [.int .i64 rw, .int .i64 rg, .slice 2 1 lo len none, .int .i64 nw, .bool ov], .rows (.pair (.int .i64) (.int .i64)) r false] => oK (fun v : Int × Int × Int × Nat × Nat × Int × Bool × List (Int × Int) => k (.int .i64 v.1) [(.var [(.int .i64 v.2.1), (.int .i64 v.2.2.1), (.slice 2 1 v.2.2.2.1 v.2.2.2.2.1 none), (.int .i64 v.2.2.2.2.2.1), (.bool v.2.2.2.2.2.2.1)]), (.rows (Cd.pair (Cd.int .i64) (Cd.int .i64)) v.2.2.2.2.2.2.2 false)]) (S.rmean r lo len rw rg nw ov t)
  | [.ptr 0 0 0, .int .i64 t], [.var [.int .i64 rw, .int .i64 rg, .nils, .int .i64 nw, .bool ov]] => k (.int .i64 (S.rmean1 rw rg nw ov t).1) [(.var [(.int .i64 (S.rmean1 rw rg nw ov t).2.1), (.int .i64 (S.rmean1 rw rg nw ov t).2.2.1), .nils, (.int .i64 (S.rmean1 rw rg nw ov t).2.2.2.1), (.bool (S.rmean1 rw rg nw ov t).2.2.2.2)])]
  | _, _ => none
theorem H19_ok : HndOk Try.prog 19 H19 := hnd_ok tis tisOk mixOk G39_ok F19 Try.func19 rfl (by
  intro R args σ k r h
  unfold H19 at h
  split at h
  · rename_i t rw rg lo len nw ov r; exact ⟨0, (S.rmean_v r lo len rw rg nw ov t _).trans h⟩
  · rename_i t rw rg nw ov; exact ⟨0, (S.rmean1_v rw rg nw ov t _).trans h⟩
  · cases h)
noncomputable def G19 : Env := Env.add 19 H19 G39
theorem G19_ok : EnvOk Try.prog G19 := envAdd_ok H19_ok G39_ok

/-! (*spinnakerref5.Ring).Resize -/
def F37 : FCfg := ⟨keepAt [(0, [0, 1]), (1, [0, 1, 14]), (2, [4]), (3, [0]), (4, []), (5, [4])], loopAt [], [⟨1, false, 0, [], 2, (.pair (.int .i64) (.int .i64)), none⟩, ⟨2, false, 0, [2], 0, .bool, none⟩, ⟨3, false, 1, [], 0, .bool, none⟩]⟩
theorem S.rresize_k {R : Type} (r : RL) (lo len : Nat) (rw rg nw : Int) (ov : Bool) (w : Int) (k : AVal → List Blk → Option R) : fnEval tis F37 0 G19 Try.f37 [.ptr 0 0 0, .int .i64 w] [.var [.int .i64 rw, .int .i64 rg, .slice 2 1 lo len none, .int .i64 nw, .bool ov], .rows (.pair (.int .i64) (.int .i64)) r false] k =
  (bif decide (w < rg) then
   k (.int .i64 1) ([.var [.int .i64 rw, .int .i64 rg, .slice 2 2 lo len Option.none, .int .i64 nw, .bool ov], .dead, .rows (Cd.pair (Cd.int .i64) (Cd.int .i64)) r false])
 else
   bif decide (600 < w) then
   k (.int .i64 1) ([.var [.int .i64 rw, .int .i64 rg, .slice 2 2 lo len Option.none, .int .i64 nw, .bool ov], .dead, .rows (Cd.pair (Cd.int .i64) (Cd.int .i64)) r false])
 else
   (optK (S.rforget 100000 r lo len w rg nw ov) fun o4 =>
   k (.int .i64 0) ([.var [.int .i64 o4.1, .int .i64 o4.2.1, .slice 2 2 0 o4.2.2.1 Option.none, .int .i64 o4.2.2.2.1, .bool o4.2.2.2.2.1], .dead, .rows (Cd.pair (Cd.int .i64) (Cd.int .i64)) o4.2.2.2.2.2.2 false]))) := by kernel_rfl
noncomputable def S.rresize (r : RL) (lo len : Nat) (rw rg nw : Int) (ov : Bool) (w : Int) : Option (Int × Int × Int × Nat × Nat × Int × Bool × RL) :=
  bif decide (w < rg) then
   some (1, rw, rg, lo, len, nw, ov, r)
 else
   bif decide (600 < w) then
   some (1, rw, rg, lo, len, nw, ov, r)
 else
   (optK (S.rforget 100000 r lo len w rg nw ov) fun o4 =>
   some (0, o4.1, o4.2.1, 0, o4.2.2.1, o4.2.2.2.1, o4.2.2.2.2.1, o4.2.2.2.2.2.2))
noncomputable def S.rresize_gk {R : Type} (r : RL) (lo len : Nat) (rw rg nw : Int) (ov : Bool) (w : Int) (k : AVal → List Blk → Option R) : (Int × Int × Int × Nat × Nat × Int × Bool × RL) → Option R := (fun v : Int × Int × Int × Nat × Nat × Int × Bool × RL => k (.int .i64 v.1) [(.var [(.int .i64 v.2.1), (.int .i64 v.2.2.1), (.slice 2 2 v.2.2.2.1 v.2.2.2.2.1 none), (.int .i64 v.2.2.2.2.2.1), (.bool v.2.2.2.2.2.2.1)]), .dead, (.rows (Cd.pair (Cd.int .i64) (Cd.int .i64)) v.2.2.2.2.2.2.2 false)])
theorem S.rresize_v {R : Type} (r : RL) (lo len : Nat) (rw rg nw : Int) (ov : Bool) (w : Int) (k : AVal → List Blk → Option R) : fnEval tis F37 0 G19 Try.f37 [.ptr 0 0 0, .int .i64 w] [.var [.int .i64 rw, .int .i64 rg, .slice 2 1 lo len none, .int .i64 nw, .bool ov], .rows (.pair (.int .i64) (.int .i64)) r false] k = oK (fun v : Int × Int × Int × Nat × Nat × Int × Bool × RL => k (.int .i64 v.1) [(.var [(.int .i64 v.2.1), (.int .i64 v.2.2.1), (.slice 2 2 v.2.2.2.1 v.2.2.2.2.1 none), (.int .i64 v.2.2.2.2.2.1), (.bool v.2.2.2.2.2.2.1)]), .dead, (.rows (Cd.pair (Cd.int .i64) (Cd.int .i64)) v.2.2.2.2.2.2.2 false)]) (S.rresize r lo len rw rg nw ov w) :=
  (S.rresize_k r lo len rw rg nw ov w k).trans (bif_lift (f := (oK (S.rresize_gk r lo len rw rg nw ov w k))) rfl (bif_lift (f := (oK (S.rresize_gk r lo len rw rg nw ov w k))) rfl (opt_lift fun o4 => rfl)))
theorem S.rresize1_k {R : Type} (rw rg nw : Int) (ov : Bool) (w : Int) (k : AVal → List Blk → Option R) : fnEval tis F37 0 G19 Try.f37 [.ptr 0 0 0, .int .i64 w] [.var [.int .i64 rw, .int .i64 rg, .nils, .int .i64 nw, .bool ov]] k =
  (bif decide (w < rg) then
   k (.int .i64 1) ([.var [.int .i64 rw, .int .i64 rg, .slice 2 1 0 0 Option.none, .int .i64 nw, .bool ov], .rows (Cd.pair (Cd.int .i64) (Cd.int .i64)) [] false])
 else
   bif decide (600 < w) then
   k (.int .i64 1) ([.var [.int .i64 rw, .int .i64 rg, .slice 2 1 0 0 Option.none, .int .i64 nw, .bool ov], .rows (Cd.pair (Cd.int .i64) (Cd.int .i64)) [] false])
 else
   k (.int .i64 0) ([.var [.int .i64 w, .int .i64 rg, .slice 2 1 0 0 Option.none, .int .i64 nw, .bool ov], .rows (Cd.pair (Cd.int .i64) (Cd.int .i64)) [] false])) := by kernel_rfl
noncomputable def S.rresize1 (rw rg nw : Int) (ov : Bool) (w : Int) : Int × Int × Int × Int × Bool × List (Int × Int) :=
  bif decide (w < rg) then
   (1, rw, rg, nw, ov, [])
 else
   bif decide (600 < w) then
   (1, rw, rg, nw, ov, [])
 else
   (0, w, rg, nw, ov, [])
noncomputable def S.rresize1_gk {R : Type} (rw rg nw : Int) (ov : Bool) (w : Int) (k : AVal → List Blk → Option R) : (Int × Int × Int × Int × Bool × List (Int × Int)) → Option R := (fun v : Int × Int × Int × Int × Bool × List (Int × Int) => k (.int .i64 v.1) [(.var [(.int .i64 v.2.1), (.int .i64 v.2.2.1), (.slice 2 1 (0) (0) none), (.int .i64 v.2.2.2.1), (.bool v.2.2.2.2.1)]), (.rows (Cd.pair (Cd.int .i64) (Cd.int .i64)) v.2.2.2.2.2 false)])
theorem S.rresize1_v {R : Type} (rw rg nw : Int) (ov : Bool) (w : Int) (k : AVal → List Blk → Option R) : fnEval tis F37 0 G19 Try.f37 [.ptr 0 0 0, .int .i64 w] [.var [.int .i64 rw, .int .i64 rg, .nils, .int .i64 nw, .bool ov]] k = k (.int .i64 (S.rresize1 rw rg nw ov w).1) [(.var [(.int .i64 (S.rresize1 rw rg nw ov w).2.1), (.int .i64 (S.rresize1 rw rg nw ov w).2.2.1), (.slice 2 1 (0) (0) none), (.int .i64 (S.rresize1 rw rg nw ov w).2.2.2.1), (.bool (S.rresize1 rw rg nw ov w).2.2.2.2.1)]), (.rows (Cd.pair (Cd.int .i64) (Cd.int .i64)) (S.rresize1 rw rg nw ov w).2.2.2.2.2 false)] :=
  (S.rresize1_k rw rg nw ov w k).trans (bif_lift (f := (S.rresize1_gk rw rg nw ov w k)) rfl (bif_lift (f := (S.rresize1_gk rw rg nw ov w k)) rfl rfl))
noncomputable def H37 : Hnd := fun R args σ k => match args, σ with
  | [.ptr 0 0 0, .int .i64 w], [.var [.int .i64 rw, .int .i64 rg, .slice 2 1 lo len none, .int .i64 nw, .bool ov], .rows (.pair (.int .i64) (.int .i64)) r false] => oK (fun v : Int × Int × Int × Nat × Nat × Int × Bool × RL => k (.int .i64 v.1) [(.var [(.int .i64 v.2.1), (.int .i64 v.2.2.1), (.slice 2 2 v.2.2.2.1 v.2.2.2.2.1 none), (.int .i64 v.2.2.2.2.2.1), (.bool v.2.2.2.2.2.2.1)]), .dead, (.rows (Cd.pair (Cd.int .i64) (Cd.int .i64)) v.2.2.2.2.2.2.2 false)]) (S.rresize r lo len rw rg nw ov w)
  | [.ptr 0 0 0, .int .i64 w], [.var [.int .i64 rw, .int .i64 rg, .nils, .int .i64 nw, .bool ov]] => k (.int .i64 (S.rresize1 rw rg nw ov w).1) [(.var [(.int .i64 (S.rresize1 rw rg nw ov w).2.1), (.int .i64 (S.rresize1 rw rg nw ov w).2.2.1), (.slice 2 1 (0) (0) none), (.int .i64 (S.rresize1 rw rg nw ov w).2.2.2.1), (.bool (S.rresize1 rw rg nw ov w).2.2.2.2.1)]), (.rows (Cd.pair (Cd.int .i64) (Cd.int .i64)) (S.rresize1 rw rg nw ov w).2.2.2.2.2 false)]
  | _, _ => none
theorem H37_ok : HndOk Try.prog 37 H37 := hnd_ok tis tisOk mixOk G19_ok F37 Try.func37 rfl (by
  intro R args σ k r h
  unfold H37 at h
  split at h
  · rename_i w rw rg lo len nw ov r; exact ⟨0, (S.rresize_v r lo len rw rg nw ov w _).trans h⟩
  · rename_i w rw rg nw ov; exact ⟨0, (S.rresize1_v rw rg nw ov w _).trans h⟩
  · cases h)
noncomputable def G37 : Env := Env.add 37 H37 G19
theorem G37_ok : EnvOk Try.prog G37 := envAdd_ok H37_ok G19_ok
end Go.Proofs.Ytdflpflffccmgaa.AB
