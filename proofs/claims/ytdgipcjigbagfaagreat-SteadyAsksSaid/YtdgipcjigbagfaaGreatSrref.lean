/- The document's rings, as plain functions. -/
import Derived.Test.YtdgipcjigbagfaaGreatStold17
namespace Go.Proofs.YtdgipcjigbagfaaGreat.AB
set_option linter.unusedVariables false

/-! spinnakerref5.NewRing -/
def F74 : FCfg := ⟨keepAt [(0, [0, 1]), (1, [0, 1, 19]), (2, [4]), (3, [4])], loopAt [], []⟩
noncomputable def S.rnewring_L {R : Type} (w g : Int) (k : AVal → List Blk → Option R) : Option R := fnEval tis F74 0 G92 Tryz.f74 [.int .i64 w, .int .i64 g] [] k
noncomputable def S.rnewring_gk {R : Type} (w g : Int) (k : AVal → List Blk → Option R) : ((Unit) ⊕ (Int × Int)) → Option R := (Sum.elim (fun v : Unit => k .nilp []) (fun v : Int × Int => k (.ptr 0 (0) 0) [(.var [(.int .i64 v.1), (.int .i64 v.2), .nils, (.int .i64 (-1)), (.bool (false))])]))
noncomputable def S.rnewring (w g : Int) : (Unit) ⊕ (Int × Int) :=
  bif decide (w < 1) then
   (.inl ())
 else
   bif decide (600 < w) then
   (.inl ())
 else
   bif decide (g < 1) then
   (.inl ())
 else
   bif decide (w < g) then
   (.inl ())
 else
   (.inr (w, g))
theorem S.rnewring_v {R : Type} (w g : Int) (k : AVal → List Blk → Option R) : S.rnewring_L w g k = (S.rnewring_gk w g k) (S.rnewring w g) :=
  (show S.rnewring_L w g k =
  (bif decide (w < 1) then
   (S.rnewring_gk w g k) (.inl ())
 else
   bif decide (600 < w) then
   (S.rnewring_gk w g k) (.inl ())
 else
   bif decide (g < 1) then
   (S.rnewring_gk w g k) (.inl ())
 else
   bif decide (w < g) then
   (S.rnewring_gk w g k) (.inl ())
 else
   (S.rnewring_gk w g k) (.inr (w, g))) from by kernel_rfl).trans (bif_lift (f := (S.rnewring_gk w g k)) rfl (bif_lift (f := (S.rnewring_gk w g k)) rfl (bif_lift (f := (S.rnewring_gk w g k)) rfl (bif_lift (f := (S.rnewring_gk w g k)) rfl rfl))))
noncomputable def H74 : Hnd := fun R args σ k => match args, σ with
  | [.int .i64 w, .int .i64 g], [] => (Sum.elim (fun v : Unit => k .nilp []) (fun v : Int × Int => k (.ptr 0 (0) 0) [(.var [(.int .i64 v.1), (.int .i64 v.2), .nils, (.int .i64 (-1)), (.bool (false))])])) (S.rnewring w g)
  | _, _ => none
theorem H74_ok : HndOk Tryz.prog 74 H74 := hnd_ok tis tisOk mixOk G92_ok F74 Tryz.func74 rfl (by
  intro R args σ k r h
  unfold H74 at h
  split at h
  · rename_i w g; exact ⟨0, (S.rnewring_v w g _).trans h⟩
  · cases h)
noncomputable def G74 : Env := Env.add 74 H74 G92
theorem G74_ok : EnvOk Tryz.prog G74 := envAdd_ok H74_ok G92_ok

/-! (*spinnakerref5.Ring).N -/
def F78 : FCfg := ⟨keepAt [(0, [0]), (1, [2])], loopAt [], []⟩
noncomputable def S.rN_L {R : Type} (r : RL) (lo len : Nat) (rw rg nw : Int) (ov : Bool) (k : AVal → List Blk → Option R) : Option R := fnEval tis F78 0 G74 Tryz.f78 [.ptr 0 0 0] [.var [.int .i64 rw, .int .i64 rg, .slice 2 1 lo len none, .int .i64 nw, .bool ov], .rows (.pair (.int .i64) (.int .i64)) r false] k
noncomputable def S.rN_gk {R : Type} (r : RL) (lo len : Nat) (rw rg nw : Int) (ov : Bool) (k : AVal → List Blk → Option R) : (Int) → Option R := (fun v : Int => k (.int .i64 v) [.var [.int .i64 rw, .int .i64 rg, .slice 2 1 lo len none, .int .i64 nw, .bool ov], .rows (.pair (.int .i64) (.int .i64)) r false])
noncomputable def S.rN (r : RL) (lo len : Nat) (rw rg nw : Int) (ov : Bool) : Option (Int) :=
  bif decide (rg = 0) then
   none
 else
   some (Go.IntKind.wrap .i64 (Int.tdiv (Go.IntKind.wrap .i64 (Go.IntKind.wrap .i64 (rw + rg) - 1)) rg))
theorem S.rN_v {R : Type} (r : RL) (lo len : Nat) (rw rg nw : Int) (ov : Bool) (k : AVal → List Blk → Option R) : S.rN_L r lo len rw rg nw ov k = oK (fun v : Int => k (.int .i64 v) [.var [.int .i64 rw, .int .i64 rg, .slice 2 1 lo len none, .int .i64 nw, .bool ov], .rows (.pair (.int .i64) (.int .i64)) r false]) (S.rN r lo len rw rg nw ov) :=
  (show S.rN_L r lo len rw rg nw ov k =
  (bif decide (rg = 0) then
   none
 else
   (S.rN_gk r lo len rw rg nw ov k) (Go.IntKind.wrap .i64 (Int.tdiv (Go.IntKind.wrap .i64 (Go.IntKind.wrap .i64 (rw + rg) - 1)) rg))) from by kernel_rfl).trans (bif_lift (f := (oK (S.rN_gk r lo len rw rg nw ov k))) rfl rfl)
noncomputable def H78 : Hnd := fun R args σ k => match args, σ with
  | [.ptr 0 0 0], [.var [.int .i64 rw, .int .i64 rg, .slice 2 1 lo len none, .int .i64 nw, .bool ov], .rows (.pair (.int .i64) (.int .i64)) r false] => oK (fun v : Int => k (.int .i64 v) []) (S.rN r lo len rw rg nw ov)
  | _, _ => none
theorem H78_ok : HndOk Tryz.prog 78 H78 := hnd_ok_pure tis tisOk mixOk G74_ok F78 Tryz.func78 rfl (by
  intro R args σ k r h
  unfold H78 at h
  split at h
  · rename_i rw rg lo len nw ov r; exact ⟨0, (S.rN_v r lo len rw rg nw ov _).trans ((congrArg (fun g9 => oK g9 (S.rN r lo len rw rg nw ov)) (funext fun v => if_pos rfl)).trans h)⟩
  · cases h)
noncomputable def G78 : Env := Env.add 78 H78 G74
theorem G78_ok : EnvOk Tryz.prog G78 := envAdd_ok H78_ok G74_ok

/-! (*spinnakerref5.Ring).bucket -/
def F77 : FCfg := ⟨keepAt [(0, [0, 1]), (1, [4])], loopAt [], []⟩
noncomputable def S.rbucket_L {R : Type} (r : RL) (lo len : Nat) (rw rg nw : Int) (ov : Bool) (t : Int) (k : AVal → List Blk → Option R) : Option R := fnEval tis F77 0 G78 Tryz.f77 [.ptr 0 0 0, .int .i64 t] [.var [.int .i64 rw, .int .i64 rg, .slice 2 1 lo len none, .int .i64 nw, .bool ov], .rows (.pair (.int .i64) (.int .i64)) r false] k
noncomputable def S.rbucket_gk {R : Type} (r : RL) (lo len : Nat) (rw rg nw : Int) (ov : Bool) (t : Int) (k : AVal → List Blk → Option R) : (Int) → Option R := (fun v : Int => k (.int .i64 v) [.var [.int .i64 rw, .int .i64 rg, .slice 2 1 lo len none, .int .i64 nw, .bool ov], .rows (.pair (.int .i64) (.int .i64)) r false])
noncomputable def S.rbucket (r : RL) (lo len : Nat) (rw rg nw : Int) (ov : Bool) (t : Int) : Option (Int) :=
  bif decide (rg = 0) then
   none
 else
   some (Go.IntKind.wrap .i64 (Int.tdiv t rg))
theorem S.rbucket_v {R : Type} (r : RL) (lo len : Nat) (rw rg nw : Int) (ov : Bool) (t : Int) (k : AVal → List Blk → Option R) : S.rbucket_L r lo len rw rg nw ov t k = oK (fun v : Int => k (.int .i64 v) [.var [.int .i64 rw, .int .i64 rg, .slice 2 1 lo len none, .int .i64 nw, .bool ov], .rows (.pair (.int .i64) (.int .i64)) r false]) (S.rbucket r lo len rw rg nw ov t) :=
  (show S.rbucket_L r lo len rw rg nw ov t k =
  (bif decide (rg = 0) then
   none
 else
   (S.rbucket_gk r lo len rw rg nw ov t k) (Go.IntKind.wrap .i64 (Int.tdiv t rg))) from by kernel_rfl).trans (bif_lift (f := (oK (S.rbucket_gk r lo len rw rg nw ov t k))) rfl rfl)
noncomputable def H77 : Hnd := fun R args σ k => match args, σ with
  | [.ptr 0 0 0, .int .i64 t], [.var [.int .i64 rw, .int .i64 rg, .slice 2 1 lo len none, .int .i64 nw, .bool ov], .rows (.pair (.int .i64) (.int .i64)) r false] => oK (fun v : Int => k (.int .i64 v) []) (S.rbucket r lo len rw rg nw ov t)
  | _, _ => none
theorem H77_ok : HndOk Tryz.prog 77 H77 := hnd_ok_pure tis tisOk mixOk G78_ok F77 Tryz.func77 rfl (by
  intro R args σ k r h
  unfold H77 at h
  split at h
  · rename_i t rw rg lo len nw ov r; exact ⟨0, (S.rbucket_v r lo len rw rg nw ov t _).trans ((congrArg (fun g9 => oK g9 (S.rbucket r lo len rw rg nw ov t)) (funext fun v => if_pos rfl)).trans h)⟩
  · cases h)
noncomputable def G77 : Env := Env.add 77 H77 G78
theorem G77_ok : EnvOk Tryz.prog G77 := envAdd_ok H77_ok G78_ok

/-! (*spinnakerref5.Ring).forget -/
def F79 : FCfg := ⟨keepAt [(0, [0, 2]), (1, [0, 2, 3]), (2, [0, 2, 3, 10]), (3, [0, 2, 3]), (4, [0, 2, 3, 30]), (5, [0, 2, 3]), (6, [])], loopAt [(2, [0, 2, 3], [⟨0, true, 2, [], 0, (.pair (.int .i64) (.int .i64)), none⟩])], []⟩
noncomputable def C_rforget (fu : Nat) (r : RL) (lo len : Nat) (rw rg nw : Int) (ov : Bool) : Cfg := Cfg.of tis F79 fu (List.length ([.var [.int .i64 rw, .int .i64 rg, .slice 2 1 lo len none, .int .i64 nw, .bool ov], .rows (.pair (.int .i64) (.int .i64)) r false] : List Blk)) Tryz.f79.ntmps
noncomputable def S.rforget_b0 : Code := codeAt (bodyOf Tryz.f79) [1, 0, 1, 0, 0]
noncomputable def S.rforget_s0 (r : RL) (lo len : Nat) (rw rg nw : Int) (ov : Bool) (y0 : Nat) (y1 : Int) (y2 : List (Int × Int)) : St := ⟨[(0, (.ptr 0 (0) 0)), (2, (.slice 2 2 (0) (y0) none)), (3, (.int .i64 (y1)))], [(.var [(.int .i64 (rw)), (.int .i64 (rg)), (.slice 2 1 (lo) (len) none), (.int .i64 (nw)), (.bool (ov))]), (.rows (Cd.pair (Cd.int .i64) (Cd.int .i64)) (r) false), (.rows (Cd.pair (Cd.int .i64) (Cd.int .i64)) (y2) false)]⟩
noncomputable def S.rforget_x0_0 (r : RL) (lo len : Nat) (rw rg nw : Int) (ov : Bool) (z0 : Nat) (z1 : Int) (z2 : Bool) (z3 : List (Int × Int)) : St := ⟨[(0, (.ptr 0 (0) 0)), (2, (.slice 2 2 (0) (z0) none)), (3, (.int .i64 (z1))), (10, (.bool (z2)))], [(.var [(.int .i64 (rw)), (.int .i64 (rg)), (.slice 2 1 (lo) (len) none), (.int .i64 (nw)), (.bool (ov))]), (.rows (Cd.pair (Cd.int .i64) (Cd.int .i64)) (r) false), (.rows (Cd.pair (Cd.int .i64) (Cd.int .i64)) (z3) false)]⟩
noncomputable def S.rforget_g0 {R : Type} (r : RL) (lo len : Nat) (rw rg nw : Int) (ov : Bool) (K : Ex → St → Option R) : ((Nat × Int × Bool × List (Int × Int))) → Option R := (fun z : Nat × Int × Bool × List (Int × Int) => K (Ex.exit 0) (S.rforget_x0_0 r lo len rw rg nw ov (z.1) (z.2.1) (z.2.2.1) (z.2.2.2)))
noncomputable def S.rforget_gk {R : Type} (r : RL) (lo len : Nat) (rw rg nw : Int) (ov : Bool) (k : AVal → List Blk → Option R) : (Int × Int × Nat × Int × Bool × RL × List (Int × Int)) → Option R := (fun v : Int × Int × Nat × Int × Bool × RL × List (Int × Int) => k (.tuple []) [(.var [(.int .i64 v.1), (.int .i64 v.2.1), (.slice 2 2 (0) v.2.2.1 none), (.int .i64 v.2.2.2.1), (.bool v.2.2.2.2.1)]), (.rows (Cd.pair (Cd.int .i64) (Cd.int .i64)) v.2.2.2.2.2.1 false), (.rows (Cd.pair (Cd.int .i64) (Cd.int .i64)) v.2.2.2.2.2.2 false)])
theorem S.rforget_l0_k {R : Type} (fu : Nat) (r : RL) (lo len : Nat) (rw rg nw : Int) (ov : Bool) (n : Nat) (K : Ex → St → Option R) (y0 : Nat) (y1 : Int) (y2 : List (Int × Int)) : loopRun (C_rforget fu r lo len rw rg nw ov) G77 S.rforget_b0 (n + 1) (S.rforget_s0 r lo len rw rg nw ov (y0) (y1) (y2)) K =
  (bif decide (y1 < ((len : Nat) : Int)) then
   bif inB y1 len then
   (optK (r[Int.toNat y1 + lo]?) fun o4 =>
   (optK (S.rbucket r lo len rw rg nw ov o4.1) fun o5 =>
   (optK (S.rN r lo len rw rg nw ov) fun o6 =>
   bif decide (Go.IntKind.wrap .i64 (nw - o5) < o6) then
   bif inB y1 len then
   (optK (r[Int.toNat y1 + lo]?) fun o9 =>
   bif Nat.beq 2 2 && Nat.blt 0 16 && Nat.beq 2 2 && Nat.beq 2 2 && Nat.beq 2 2 && Nat.blt 0 1 && !Nat.beq 2 3 && Nat.ble ((y0 + 1) * 16) 35184372088832 then
   loopRun (C_rforget fu r lo len rw rg nw ov) G77 S.rforget_b0 n (S.rforget_s0 r lo len rw rg nw ov (List.length (cutL y2 0 y0 ++ cutL [(o9.1, o9.2)] 0 1)) (Go.IntKind.wrap .i64 (y1 + 1)) (cutL y2 0 y0 ++ cutL [(o9.1, o9.2)] 0 1)) K
 else
   none)
 else
   none
 else
   loopRun (C_rforget fu r lo len rw rg nw ov) G77 S.rforget_b0 n (S.rforget_s0 r lo len rw rg nw ov (y0) (Go.IntKind.wrap .i64 (y1 + 1)) (y2)) K)))
 else
   none
 else
   K (Ex.exit 0) (S.rforget_x0_0 r lo len rw rg nw ov (y0) (y1) (decide (y1 < ((len : Nat) : Int))) (y2))) := by kernel_rfl
noncomputable def S.rforget_l0 (fu : Nat) (r : RL) (lo len : Nat) (rw rg nw : Int) (ov : Bool) : Nat → (Nat) → (Int) → (List (Int × Int)) → Option ((Nat × Int × Bool × List (Int × Int)))
  | 0, _, _, _ => none
  | n + 1, y0, y1, y2 =>
    bif decide (y1 < ((len : Nat) : Int)) then
   bif inB y1 len then
   (optK (r[Int.toNat y1 + lo]?) fun o4 =>
   (optK (S.rbucket r lo len rw rg nw ov o4.1) fun o5 =>
   (optK (S.rN r lo len rw rg nw ov) fun o6 =>
   bif decide (Go.IntKind.wrap .i64 (nw - o5) < o6) then
   bif inB y1 len then
   (optK (r[Int.toNat y1 + lo]?) fun o9 =>
   bif Nat.beq 2 2 && Nat.blt 0 16 && Nat.beq 2 2 && Nat.beq 2 2 && Nat.beq 2 2 && Nat.blt 0 1 && !Nat.beq 2 3 && Nat.ble ((y0 + 1) * 16) 35184372088832 then
   (S.rforget_l0 fu r lo len rw rg nw ov n) (List.length (cutL y2 0 y0 ++ cutL [(o9.1, o9.2)] 0 1)) (Go.IntKind.wrap .i64 (y1 + 1)) (cutL y2 0 y0 ++ cutL [(o9.1, o9.2)] 0 1)
 else
   none)
 else
   none
 else
   (S.rforget_l0 fu r lo len rw rg nw ov n) (y0) (Go.IntKind.wrap .i64 (y1 + 1)) (y2))))
 else
   none
 else
   some (y0, y1, decide (y1 < ((len : Nat) : Int)), y2)
theorem S.rforget_l0_v {R : Type} (fu : Nat) (r : RL) (lo len : Nat) (rw rg nw : Int) (ov : Bool) (K : Ex → St → Option R) : ∀ (n : Nat) (y0 : Nat) (y1 : Int) (y2 : List (Int × Int)), loopRun (C_rforget fu r lo len rw rg nw ov) G77 S.rforget_b0 n (S.rforget_s0 r lo len rw rg nw ov (y0) (y1) (y2)) K = oK (β := (Nat × Int × Bool × List (Int × Int))) (S.rforget_g0 r lo len rw rg nw ov K) (S.rforget_l0 fu r lo len rw rg nw ov n y0 y1 y2)
  | 0, _, _, _ => rfl
  | n + 1, y0, y1, y2 => (S.rforget_l0_k fu r lo len rw rg nw ov n K y0 y1 y2).trans (bif_lift (f := (oK (S.rforget_g0 r lo len rw rg nw ov K))) (bif_lift (f := (oK (S.rforget_g0 r lo len rw rg nw ov K))) (opt_lift fun o4 => (opt_lift fun o5 => (opt_lift fun o6 => (bif_lift (f := (oK (S.rforget_g0 r lo len rw rg nw ov K))) (bif_lift (f := (oK (S.rforget_g0 r lo len rw rg nw ov K))) (opt_lift fun o9 => (bif_lift (f := (oK (S.rforget_g0 r lo len rw rg nw ov K))) (S.rforget_l0_v fu r lo len rw rg nw ov K n (List.length (cutL y2 0 y0 ++ cutL [(o9.1, o9.2)] 0 1)) (Go.IntKind.wrap .i64 (y1 + 1)) (cutL y2 0 y0 ++ cutL [(o9.1, o9.2)] 0 1)) rfl)) rfl) (S.rforget_l0_v fu r lo len rw rg nw ov K n (y0) (Go.IntKind.wrap .i64 (y1 + 1)) (y2)))))) rfl) rfl)
noncomputable def S.rforget_a0_0 (fu : Nat) (r : RL) (lo len : Nat) (rw rg nw : Int) (ov : Bool) (z0 : Nat) (z1 : Int) (z2 : Bool) (z3 : List (Int × Int)) : Option (Int × Int × Nat × Int × Bool × RL × List (Int × Int)) :=
  some (rw, rg, z0, nw, ov, r, z3)
theorem S.rforget_a0_0_v {R : Type} (fu : Nat) (r : RL) (lo len : Nat) (rw rg nw : Int) (ov : Bool) (z0 : Nat) (z1 : Int) (z2 : Bool) (z3 : List (Int × Int)) (k : AVal → List Blk → Option R) : contOf (C_rforget fu r lo len rw rg nw ov) G77 (bodyOf Tryz.f79) [1, 0, 1, 0] (retK tis F79 Tryz.f79 (List.length ([.var [.int .i64 rw, .int .i64 rg, .slice 2 1 lo len none, .int .i64 nw, .bool ov], .rows (.pair (.int .i64) (.int .i64)) r false] : List Blk)) k) (Ex.exit 0) (S.rforget_x0_0 r lo len rw rg nw ov (z0) (z1) (z2) (z3)) = oK (S.rforget_gk r lo len rw rg nw ov k) (S.rforget_a0_0 fu r lo len rw rg nw ov z0 z1 z2 z3) :=
  (show contOf (C_rforget fu r lo len rw rg nw ov) G77 (bodyOf Tryz.f79) [1, 0, 1, 0] (retK tis F79 Tryz.f79 (List.length ([.var [.int .i64 rw, .int .i64 rg, .slice 2 1 lo len none, .int .i64 nw, .bool ov], .rows (.pair (.int .i64) (.int .i64)) r false] : List Blk)) k) (Ex.exit 0) (S.rforget_x0_0 r lo len rw rg nw ov (z0) (z1) (z2) (z3)) =
  ((S.rforget_gk r lo len rw rg nw ov k) (rw, rg, z0, nw, ov, r, z3)) from by kernel_rfl).trans rfl
noncomputable def S.rforget_L {R : Type} (fu : Nat) (r : RL) (lo len : Nat) (rw rg nw : Int) (ov : Bool) (k : AVal → List Blk → Option R) : Option R := fnEval tis F79 fu G77 Tryz.f79 [.ptr 0 0 0] [.var [.int .i64 rw, .int .i64 rg, .slice 2 1 lo len none, .int .i64 nw, .bool ov], .rows (.pair (.int .i64) (.int .i64)) r false] k
noncomputable def S.rforget (fu : Nat) (r : RL) (lo len : Nat) (rw rg nw : Int) (ov : Bool) : Option (Int × Int × Nat × Int × Bool × RL × List (Int × Int)) :=
  optK (S.rforget_l0 fu r lo len rw rg nw ov fu (0) (0) ([])) (fun z : Nat × Int × Bool × List (Int × Int) => S.rforget_a0_0 fu r lo len rw rg nw ov (z.1) (z.2.1) (z.2.2.1) (z.2.2.2))
theorem S.rforget_v {R : Type} (fu : Nat) (r : RL) (lo len : Nat) (rw rg nw : Int) (ov : Bool) (k : AVal → List Blk → Option R) : S.rforget_L fu r lo len rw rg nw ov k = oK (S.rforget_gk r lo len rw rg nw ov k) (S.rforget fu r lo len rw rg nw ov) :=
  (show S.rforget_L fu r lo len rw rg nw ov k =
  (loopRun (C_rforget fu r lo len rw rg nw ov) G77 S.rforget_b0 fu (S.rforget_s0 r lo len rw rg nw ov (0) (0) ([])) (contOf (C_rforget fu r lo len rw rg nw ov) G77 (bodyOf Tryz.f79) [1, 0, 1, 0] (retK tis F79 Tryz.f79 (List.length ([.var [.int .i64 rw, .int .i64 rg, .slice 2 1 lo len none, .int .i64 nw, .bool ov], .rows (.pair (.int .i64) (.int .i64)) r false] : List Blk)) k))) from by kernel_rfl).trans (arr_lift (S.rforget_l0_v fu r lo len rw rg nw ov (contOf (C_rforget fu r lo len rw rg nw ov) G77 (bodyOf Tryz.f79) [1, 0, 1, 0] (retK tis F79 Tryz.f79 (List.length ([.var [.int .i64 rw, .int .i64 rg, .slice 2 1 lo len none, .int .i64 nw, .bool ov], .rows (.pair (.int .i64) (.int .i64)) r false] : List Blk)) k)) fu (0) (0) ([])) ((fun z => S.rforget_a0_0_v fu r lo len rw rg nw ov (z.1) (z.2.1) (z.2.2.1) (z.2.2.2) k)))
noncomputable def H79 : Hnd := fun R args σ k => match args, σ with
  | [.ptr 0 0 0], [.var [.int .i64 rw, .int .i64 rg, .slice 2 1 lo len none, .int .i64 nw, .bool ov], .rows (.pair (.int .i64) (.int .i64)) r false] => oK (fun v : Int × Int × Nat × Int × Bool × RL × List (Int × Int) => k (.tuple []) [(.var [(.int .i64 v.1), (.int .i64 v.2.1), (.slice 2 2 (0) v.2.2.1 none), (.int .i64 v.2.2.2.1), (.bool v.2.2.2.2.1)]), (.rows (Cd.pair (Cd.int .i64) (Cd.int .i64)) v.2.2.2.2.2.1 false), (.rows (Cd.pair (Cd.int .i64) (Cd.int .i64)) v.2.2.2.2.2.2 false)]) (S.rforget 100000 r lo len rw rg nw ov)
  | _, _ => none
theorem H79_ok : HndOk Tryz.prog 79 H79 := hnd_ok tis tisOk mixOk G77_ok F79 Tryz.func79 rfl (by
  intro R args σ k r h
  unfold H79 at h
  split at h
  · rename_i rw rg lo len nw ov r; exact ⟨100000, (S.rforget_v 100000 r lo len rw rg nw ov _).trans h⟩
  · cases h)
noncomputable def G79 : Env := Env.add 79 H79 G77
theorem G79_ok : EnvOk Tryz.prog G79 := envAdd_ok H79_ok G77_ok

/-! (*spinnakerref5.Ring).Put -/
def F40 : FCfg := ⟨keepAt [(0, [0, 1, 2]), (1, [0, 1, 2, 16]), (2, [6]), (3, [0, 1, 2, 27]), (4, [6]), (5, [0, 1, 2]), (6, [0]), (7, []), (8, [6])], loopAt [], [⟨1, false, 0, [], 2, (.pair (.int .i64) (.int .i64)), none⟩, ⟨2, false, 0, [2], 0, .bool, none⟩]⟩
noncomputable def S.rput_L {R : Type} (r : RL) (lo len : Nat) (rw rg nw : Int) (ov : Bool) (t v : Int) (k : AVal → List Blk → Option R) : Option R := fnEval tis F40 0 G79 Tryz.f40 [.ptr 0 0 0, .int .i64 t, .int .i64 v] [.var [.int .i64 rw, .int .i64 rg, .slice 2 1 lo len none, .int .i64 nw, .bool ov], .rows (.pair (.int .i64) (.int .i64)) r false] k
noncomputable def S.rput_gk {R : Type} (r : RL) (lo len : Nat) (rw rg nw : Int) (ov : Bool) (t v : Int) (k : AVal → List Blk → Option R) : (Int × Int × Int × Nat × Nat × Int × Bool × RL) → Option R := (fun v : Int × Int × Int × Nat × Nat × Int × Bool × RL => k (.int .i64 v.1) [(.var [(.int .i64 v.2.1), (.int .i64 v.2.2.1), (.slice 2 2 v.2.2.2.1 v.2.2.2.2.1 none), (.int .i64 v.2.2.2.2.2.1), (.bool v.2.2.2.2.2.2.1)]), .dead, (.rows (Cd.pair (Cd.int .i64) (Cd.int .i64)) v.2.2.2.2.2.2.2 false)])
noncomputable def S.rput (r : RL) (lo len : Nat) (rw rg nw : Int) (ov : Bool) (t v : Int) : Option (Int × Int × Int × Nat × Nat × Int × Bool × RL) :=
  bif decide (t < 0) then
   some (1, rw, rg, lo, len, nw, ov, r)
 else
   bif decide (1099511627776 < t) then
   some (1, rw, rg, lo, len, nw, ov, r)
 else
   bif decide (v < 0) then
   some (1, rw, rg, lo, len, nw, ov, r)
 else
   (optK (S.rbucket r lo len rw rg nw ov t) fun o5 =>
   (optK (S.rN r lo len rw rg nw ov) fun o6 =>
   bif decide (o6 ≤ Go.IntKind.wrap .i64 (nw - o5)) then
   some (0, rw, rg, lo, len, nw, ov, r)
 else
   (optK (S.rbucket r lo len rw rg nw ov t) fun o8 =>
   bif Nat.beq 2 2 && Nat.blt 0 16 && Nat.beq 2 2 && Nat.beq 2 2 && Nat.beq 2 2 && Nat.blt 0 1 && !Nat.beq 1 2 && Nat.ble ((len + 1) * 16) 35184372088832 then
   (optK (S.rforget 100000 (cutL r lo len ++ cutL [(t, v)] 0 1) 0 (List.length (cutL r lo len ++ cutL [(t, v)] 0 1)) rw rg (if o8 > nw then o8 else nw) ov) fun o10 =>
   some (0, o10.1, o10.2.1, 0, o10.2.2.1, o10.2.2.2.1, o10.2.2.2.2.1, o10.2.2.2.2.2.2))
 else
   none)))
theorem S.rput_v {R : Type} (r : RL) (lo len : Nat) (rw rg nw : Int) (ov : Bool) (t v : Int) (k : AVal → List Blk → Option R) : S.rput_L r lo len rw rg nw ov t v k = oK (S.rput_gk r lo len rw rg nw ov t v k) (S.rput r lo len rw rg nw ov t v) :=
  (show S.rput_L r lo len rw rg nw ov t v k =
  (bif decide (t < 0) then
   (S.rput_gk r lo len rw rg nw ov t v k) (1, rw, rg, lo, len, nw, ov, r)
 else
   bif decide (1099511627776 < t) then
   (S.rput_gk r lo len rw rg nw ov t v k) (1, rw, rg, lo, len, nw, ov, r)
 else
   bif decide (v < 0) then
   (S.rput_gk r lo len rw rg nw ov t v k) (1, rw, rg, lo, len, nw, ov, r)
 else
   (optK (S.rbucket r lo len rw rg nw ov t) fun o5 =>
   (optK (S.rN r lo len rw rg nw ov) fun o6 =>
   bif decide (o6 ≤ Go.IntKind.wrap .i64 (nw - o5)) then
   (S.rput_gk r lo len rw rg nw ov t v k) (0, rw, rg, lo, len, nw, ov, r)
 else
   (optK (S.rbucket r lo len rw rg nw ov t) fun o8 =>
   bif Nat.beq 2 2 && Nat.blt 0 16 && Nat.beq 2 2 && Nat.beq 2 2 && Nat.beq 2 2 && Nat.blt 0 1 && !Nat.beq 1 2 && Nat.ble ((len + 1) * 16) 35184372088832 then
   (optK (S.rforget 100000 (cutL r lo len ++ cutL [(t, v)] 0 1) 0 (List.length (cutL r lo len ++ cutL [(t, v)] 0 1)) rw rg (if o8 > nw then o8 else nw) ov) fun o10 =>
   (S.rput_gk r lo len rw rg nw ov t v k) (0, o10.1, o10.2.1, 0, o10.2.2.1, o10.2.2.2.1, o10.2.2.2.2.1, o10.2.2.2.2.2.2))
 else
   none)))) from by kernel_rfl).trans (bif_lift (f := (oK (S.rput_gk r lo len rw rg nw ov t v k))) rfl (bif_lift (f := (oK (S.rput_gk r lo len rw rg nw ov t v k))) rfl (bif_lift (f := (oK (S.rput_gk r lo len rw rg nw ov t v k))) rfl (opt_lift fun o5 => (opt_lift fun o6 => (bif_lift (f := (oK (S.rput_gk r lo len rw rg nw ov t v k))) rfl (opt_lift fun o8 => (bif_lift (f := (oK (S.rput_gk r lo len rw rg nw ov t v k))) (opt_lift fun o10 => rfl) rfl))))))))
noncomputable def H40 : Hnd := fun R args σ k => match args, σ with
  | [.ptr 0 0 0, .int .i64 t, .int .i64 v], [.var [.int .i64 rw, .int .i64 rg, .slice 2 1 lo len none, .int .i64 nw, .bool ov], .rows (.pair (.int .i64) (.int .i64)) r false] => oK (fun v : Int × Int × Int × Nat × Nat × Int × Bool × RL => k (.int .i64 v.1) [(.var [(.int .i64 v.2.1), (.int .i64 v.2.2.1), (.slice 2 2 v.2.2.2.1 v.2.2.2.2.1 none), (.int .i64 v.2.2.2.2.2.1), (.bool v.2.2.2.2.2.2.1)]), .dead, (.rows (Cd.pair (Cd.int .i64) (Cd.int .i64)) v.2.2.2.2.2.2.2 false)]) (S.rput r lo len rw rg nw ov t v)
  | _, _ => none
theorem H40_ok : HndOk Tryz.prog 40 H40 := hnd_ok tis tisOk mixOk G79_ok F40 Tryz.func40 rfl (by
  intro R args σ k r h
  unfold H40 at h
  split at h
  · rename_i t v rw rg lo len nw ov r; exact ⟨0, (S.rput_v r lo len rw rg nw ov t v _).trans h⟩
  · cases h)
noncomputable def G40 : Env := Env.add 40 H40 G79
theorem G40_ok : EnvOk Tryz.prog G40 := envAdd_ok H40_ok G79_ok

/-! (*spinnakerref5.Ring).Sum -/
def F90 : FCfg := ⟨keepAt [(0, [0, 1]), (1, [0, 1, 6, 7]), (2, [0, 1, 6, 7, 8]), (3, [0, 1, 6, 7, 8, 22]), (4, [0, 1, 6, 7, 8]), (5, [0, 1, 6, 7, 8, 9]), (6, [0, 1, 6, 7, 8, 46]), (7, [0, 1, 7, 8, 10, 11]), (8, [0, 1, 7, 8, 10]), (9, [0, 1, 6, 7, 8]), (10, [4, 5])], loopAt [(3, [0, 1, 6, 7, 8], [])], []⟩
noncomputable def C_rsum (fu : Nat) (r : RL) (lo len : Nat) (rw rg nw : Int) (ov : Bool) (t : Int) : Cfg := Cfg.of tis F90 fu (List.length ([.var [.int .i64 rw, .int .i64 rg, .slice 2 1 lo len none, .int .i64 nw, .bool ov], .rows (.pair (.int .i64) (.int .i64)) r false] : List Blk)) Tryz.f90.ntmps
noncomputable def S.rsum_b0 : Code := codeAt (bodyOf Tryz.f90) [1, 1, 0, 1, 0, 0]
noncomputable def S.rsum_s0 (r : RL) (lo len : Nat) (rw rg nw : Int) (ov : Bool) (t : Int) (y0 : Int) (y1 : Int) (y2 : Int) (y3 : Bool) : St := ⟨[(0, (.ptr 0 (0) 0)), (1, (.int .i64 (t))), (6, (.int .i64 (y0))), (7, (.int .i64 (y1))), (8, (.int .i64 (y2)))], [(.var [(.int .i64 (rw)), (.int .i64 (rg)), (.slice 2 1 (lo) (len) none), (.int .i64 (nw)), (.bool (y3))]), (.rows (Cd.pair (Cd.int .i64) (Cd.int .i64)) (r) false)]⟩
noncomputable def S.rsum_x0_0 (r : RL) (lo len : Nat) (rw rg nw : Int) (ov : Bool) (t : Int) (z0 : Int) (z1 : Int) (z2 : Int) (z3 : Bool) (z4 : Bool) : St := ⟨[(0, (.ptr 0 (0) 0)), (1, (.int .i64 (t))), (6, (.int .i64 (z0))), (7, (.int .i64 (z1))), (8, (.int .i64 (z2))), (22, (.bool (z3)))], [(.var [(.int .i64 (rw)), (.int .i64 (rg)), (.slice 2 1 (lo) (len) none), (.int .i64 (nw)), (.bool (z4))]), (.rows (Cd.pair (Cd.int .i64) (Cd.int .i64)) (r) false)]⟩
noncomputable def S.rsum_g0 {R : Type} (r : RL) (lo len : Nat) (rw rg nw : Int) (ov : Bool) (t : Int) (K : Ex → St → Option R) : ((Int × Int × Int × Bool × Bool)) → Option R := (fun z : Int × Int × Int × Bool × Bool => K (Ex.exit 0) (S.rsum_x0_0 r lo len rw rg nw ov t (z.1) (z.2.1) (z.2.2.1) (z.2.2.2.1) (z.2.2.2.2)))
noncomputable def S.rsum_gk {R : Type} (r : RL) (lo len : Nat) (rw rg nw : Int) (ov : Bool) (t : Int) (k : AVal → List Blk → Option R) : (Int × Int × Int × Int × Nat × Nat × Int × Bool × RL) → Option R := (fun v : Int × Int × Int × Int × Nat × Nat × Int × Bool × RL => k (.tuple [(.int .i64 v.1), (.int .i64 v.2.1)]) [(.var [(.int .i64 v.2.2.1), (.int .i64 v.2.2.2.1), (.slice 2 1 v.2.2.2.2.1 v.2.2.2.2.2.1 none), (.int .i64 v.2.2.2.2.2.2.1), (.bool v.2.2.2.2.2.2.2.1)]), (.rows (Cd.pair (Cd.int .i64) (Cd.int .i64)) v.2.2.2.2.2.2.2.2 false)])
theorem S.rsum_l0_k {R : Type} (fu : Nat) (r : RL) (lo len : Nat) (rw rg nw : Int) (ov : Bool) (t : Int) (n : Nat) (K : Ex → St → Option R) (y0 : Int) (y1 : Int) (y2 : Int) (y3 : Bool) : loopRun (C_rsum fu r lo len rw rg nw ov t) G40 S.rsum_b0 (n + 1) (S.rsum_s0 r lo len rw rg nw ov t (y0) (y1) (y2) (y3)) K =
  (bif decide (y2 < ((len : Nat) : Int)) then
   bif decide (0 ≤ t) then
   (optK (S.rbucket r lo len rw rg nw y3 t) fun o4 =>
   bif inB y2 len then
   (optK (r[Int.toNat y2 + lo]?) fun o6 =>
   (optK (S.rbucket r lo len rw rg nw y3 o6.1) fun o7 =>
   bif decide (Go.IntKind.wrap .i64 (o4 - o7) < 0) then
   loopRun (C_rsum fu r lo len rw rg nw ov t) G40 S.rsum_b0 n (S.rsum_s0 r lo len rw rg nw ov t (y0) (y1) (Go.IntKind.wrap .i64 (y2 + 1)) (y3)) K
 else
   (optK (S.rN r lo len rw rg nw y3) fun o9 =>
   bif decide (o9 ≤ Go.IntKind.wrap .i64 (o4 - o7)) then
   loopRun (C_rsum fu r lo len rw rg nw ov t) G40 S.rsum_b0 n (S.rsum_s0 r lo len rw rg nw ov t (y0) (y1) (Go.IntKind.wrap .i64 (y2 + 1)) (y3)) K
 else
   bif inB y2 len then
   (optK (r[Int.toNat y2 + lo]?) fun o12 =>
   bif y3 then
   loopRun (C_rsum fu r lo len rw rg nw ov t) G40 S.rsum_b0 n (S.rsum_s0 r lo len rw rg nw ov t (Prod.fst (S.radd y0 o12.2)) (Go.IntKind.wrap .i64 (y1 + 1)) (Go.IntKind.wrap .i64 (y2 + 1)) (true)) K
 else
   loopRun (C_rsum fu r lo len rw rg nw ov t) G40 S.rsum_b0 n (S.rsum_s0 r lo len rw rg nw ov t (Prod.fst (S.radd y0 o12.2)) (Go.IntKind.wrap .i64 (y1 + 1)) (Go.IntKind.wrap .i64 (y2 + 1)) (!decide (Prod.snd (S.radd y0 o12.2) = 0))) K)
 else
   none)))
 else
   none)
 else
   K (Ex.exit 0) (S.rsum_x0_0 r lo len rw rg nw ov t (y0) (y1) (y2) (decide (0 ≤ t)) (y3))
 else
   K (Ex.exit 0) (S.rsum_x0_0 r lo len rw rg nw ov t (y0) (y1) (y2) (false) (y3))) := by kernel_rfl
noncomputable def S.rsum_l0 (fu : Nat) (r : RL) (lo len : Nat) (rw rg nw : Int) (ov : Bool) (t : Int) : Nat → (Int) → (Int) → (Int) → (Bool) → Option ((Int × Int × Int × Bool × Bool))
  | 0, _, _, _, _ => none
  | n + 1, y0, y1, y2, y3 =>
    bif decide (y2 < ((len : Nat) : Int)) then
   bif decide (0 ≤ t) then
   (optK (S.rbucket r lo len rw rg nw y3 t) fun o4 =>
   bif inB y2 len then
   (optK (r[Int.toNat y2 + lo]?) fun o6 =>
   (optK (S.rbucket r lo len rw rg nw y3 o6.1) fun o7 =>
   bif decide (Go.IntKind.wrap .i64 (o4 - o7) < 0) then
   (S.rsum_l0 fu r lo len rw rg nw ov t n) (y0) (y1) (Go.IntKind.wrap .i64 (y2 + 1)) (y3)
 else
   (optK (S.rN r lo len rw rg nw y3) fun o9 =>
   bif decide (o9 ≤ Go.IntKind.wrap .i64 (o4 - o7)) then
   (S.rsum_l0 fu r lo len rw rg nw ov t n) (y0) (y1) (Go.IntKind.wrap .i64 (y2 + 1)) (y3)
 else
   bif inB y2 len then
   (optK (r[Int.toNat y2 + lo]?) fun o12 =>
   bif y3 then
   (S.rsum_l0 fu r lo len rw rg nw ov t n) (Prod.fst (S.radd y0 o12.2)) (Go.IntKind.wrap .i64 (y1 + 1)) (Go.IntKind.wrap .i64 (y2 + 1)) (true)
 else
   (S.rsum_l0 fu r lo len rw rg nw ov t n) (Prod.fst (S.radd y0 o12.2)) (Go.IntKind.wrap .i64 (y1 + 1)) (Go.IntKind.wrap .i64 (y2 + 1)) (!decide (Prod.snd (S.radd y0 o12.2) = 0)))
 else
   none)))
 else
   none)
 else
   some (y0, y1, y2, decide (0 ≤ t), y3)
 else
   some (y0, y1, y2, false, y3)
theorem S.rsum_l0_v {R : Type} (fu : Nat) (r : RL) (lo len : Nat) (rw rg nw : Int) (ov : Bool) (t : Int) (K : Ex → St → Option R) : ∀ (n : Nat) (y0 : Int) (y1 : Int) (y2 : Int) (y3 : Bool), loopRun (C_rsum fu r lo len rw rg nw ov t) G40 S.rsum_b0 n (S.rsum_s0 r lo len rw rg nw ov t (y0) (y1) (y2) (y3)) K = oK (β := (Int × Int × Int × Bool × Bool)) (S.rsum_g0 r lo len rw rg nw ov t K) (S.rsum_l0 fu r lo len rw rg nw ov t n y0 y1 y2 y3)
  | 0, _, _, _, _ => rfl
  | n + 1, y0, y1, y2, y3 => (S.rsum_l0_k fu r lo len rw rg nw ov t n K y0 y1 y2 y3).trans (bif_lift (f := (oK (S.rsum_g0 r lo len rw rg nw ov t K))) (bif_lift (f := (oK (S.rsum_g0 r lo len rw rg nw ov t K))) (opt_lift fun o4 => (bif_lift (f := (oK (S.rsum_g0 r lo len rw rg nw ov t K))) (opt_lift fun o6 => (opt_lift fun o7 => (bif_lift (f := (oK (S.rsum_g0 r lo len rw rg nw ov t K))) (S.rsum_l0_v fu r lo len rw rg nw ov t K n (y0) (y1) (Go.IntKind.wrap .i64 (y2 + 1)) (y3)) (opt_lift fun o9 => (bif_lift (f := (oK (S.rsum_g0 r lo len rw rg nw ov t K))) (S.rsum_l0_v fu r lo len rw rg nw ov t K n (y0) (y1) (Go.IntKind.wrap .i64 (y2 + 1)) (y3)) (bif_lift (f := (oK (S.rsum_g0 r lo len rw rg nw ov t K))) (opt_lift fun o12 => (bif_lift (f := (oK (S.rsum_g0 r lo len rw rg nw ov t K))) (S.rsum_l0_v fu r lo len rw rg nw ov t K n (Prod.fst (S.radd y0 o12.2)) (Go.IntKind.wrap .i64 (y1 + 1)) (Go.IntKind.wrap .i64 (y2 + 1)) (true)) (S.rsum_l0_v fu r lo len rw rg nw ov t K n (Prod.fst (S.radd y0 o12.2)) (Go.IntKind.wrap .i64 (y1 + 1)) (Go.IntKind.wrap .i64 (y2 + 1)) (!decide (Prod.snd (S.radd y0 o12.2) = 0))))) rfl)))))) rfl)) rfl) rfl)
noncomputable def S.rsum_a0_0 (fu : Nat) (r : RL) (lo len : Nat) (rw rg nw : Int) (ov : Bool) (t : Int) (z0 : Int) (z1 : Int) (z2 : Int) (z3 : Bool) (z4 : Bool) : Option (Int × Int × Int × Int × Nat × Nat × Int × Bool × RL) :=
  some (z0, z1, rw, rg, lo, len, nw, z4, r)
theorem S.rsum_a0_0_v {R : Type} (fu : Nat) (r : RL) (lo len : Nat) (rw rg nw : Int) (ov : Bool) (t : Int) (z0 : Int) (z1 : Int) (z2 : Int) (z3 : Bool) (z4 : Bool) (k : AVal → List Blk → Option R) : contOf (C_rsum fu r lo len rw rg nw ov t) G40 (bodyOf Tryz.f90) [1, 1, 0, 1, 0] (retK tis F90 Tryz.f90 (List.length ([.var [.int .i64 rw, .int .i64 rg, .slice 2 1 lo len none, .int .i64 nw, .bool ov], .rows (.pair (.int .i64) (.int .i64)) r false] : List Blk)) k) (Ex.exit 0) (S.rsum_x0_0 r lo len rw rg nw ov t (z0) (z1) (z2) (z3) (z4)) = oK (S.rsum_gk r lo len rw rg nw ov t k) (S.rsum_a0_0 fu r lo len rw rg nw ov t z0 z1 z2 z3 z4) :=
  (show contOf (C_rsum fu r lo len rw rg nw ov t) G40 (bodyOf Tryz.f90) [1, 1, 0, 1, 0] (retK tis F90 Tryz.f90 (List.length ([.var [.int .i64 rw, .int .i64 rg, .slice 2 1 lo len none, .int .i64 nw, .bool ov], .rows (.pair (.int .i64) (.int .i64)) r false] : List Blk)) k) (Ex.exit 0) (S.rsum_x0_0 r lo len rw rg nw ov t (z0) (z1) (z2) (z3) (z4)) =
  ((S.rsum_gk r lo len rw rg nw ov t k) (z0, z1, rw, rg, lo, len, nw, z4, r)) from by kernel_rfl).trans rfl
noncomputable def S.rsum_L {R : Type} (fu : Nat) (r : RL) (lo len : Nat) (rw rg nw : Int) (ov : Bool) (t : Int) (k : AVal → List Blk → Option R) : Option R := fnEval tis F90 fu G40 Tryz.f90 [.ptr 0 0 0, .int .i64 t] [.var [.int .i64 rw, .int .i64 rg, .slice 2 1 lo len none, .int .i64 nw, .bool ov], .rows (.pair (.int .i64) (.int .i64)) r false] k
noncomputable def S.rsum (fu : Nat) (r : RL) (lo len : Nat) (rw rg nw : Int) (ov : Bool) (t : Int) : Option (Int × Int × Int × Int × Nat × Nat × Int × Bool × RL) :=
  optK (S.rsum_l0 fu r lo len rw rg nw ov t fu (0) (0) (0) (ov)) (fun z : Int × Int × Int × Bool × Bool => S.rsum_a0_0 fu r lo len rw rg nw ov t (z.1) (z.2.1) (z.2.2.1) (z.2.2.2.1) (z.2.2.2.2))
theorem S.rsum_v {R : Type} (fu : Nat) (r : RL) (lo len : Nat) (rw rg nw : Int) (ov : Bool) (t : Int) (k : AVal → List Blk → Option R) : S.rsum_L fu r lo len rw rg nw ov t k = oK (S.rsum_gk r lo len rw rg nw ov t k) (S.rsum fu r lo len rw rg nw ov t) :=
  (show S.rsum_L fu r lo len rw rg nw ov t k =
  (loopRun (C_rsum fu r lo len rw rg nw ov t) G40 S.rsum_b0 fu (S.rsum_s0 r lo len rw rg nw ov t (0) (0) (0) (ov)) (contOf (C_rsum fu r lo len rw rg nw ov t) G40 (bodyOf Tryz.f90) [1, 1, 0, 1, 0] (retK tis F90 Tryz.f90 (List.length ([.var [.int .i64 rw, .int .i64 rg, .slice 2 1 lo len none, .int .i64 nw, .bool ov], .rows (.pair (.int .i64) (.int .i64)) r false] : List Blk)) k))) from by kernel_rfl).trans (arr_lift (S.rsum_l0_v fu r lo len rw rg nw ov t (contOf (C_rsum fu r lo len rw rg nw ov t) G40 (bodyOf Tryz.f90) [1, 1, 0, 1, 0] (retK tis F90 Tryz.f90 (List.length ([.var [.int .i64 rw, .int .i64 rg, .slice 2 1 lo len none, .int .i64 nw, .bool ov], .rows (.pair (.int .i64) (.int .i64)) r false] : List Blk)) k)) fu (0) (0) (0) (ov)) ((fun z => S.rsum_a0_0_v fu r lo len rw rg nw ov t (z.1) (z.2.1) (z.2.2.1) (z.2.2.2.1) (z.2.2.2.2) k)))
noncomputable def H90 : Hnd := fun R args σ k => match args, σ with
  | [.ptr 0 0 0, .int .i64 t], [.var [.int .i64 rw, .int .i64 rg, .slice 2 1 lo len none, .int .i64 nw, .bool ov], .rows (.pair (.int .i64) (.int .i64)) r false] => oK (fun v : Int × Int × Int × Int × Nat × Nat × Int × Bool × RL => k (.tuple [(.int .i64 v.1), (.int .i64 v.2.1)]) [(.var [(.int .i64 v.2.2.1), (.int .i64 v.2.2.2.1), (.slice 2 1 v.2.2.2.2.1 v.2.2.2.2.2.1 none), (.int .i64 v.2.2.2.2.2.2.1), (.bool v.2.2.2.2.2.2.2.1)]), (.rows (Cd.pair (Cd.int .i64) (Cd.int .i64)) v.2.2.2.2.2.2.2.2 false)]) (S.rsum 100000 r lo len rw rg nw ov t)
  | _, _ => none
theorem H90_ok : HndOk Tryz.prog 90 H90 := hnd_ok tis tisOk mixOk G40_ok F90 Tryz.func90 rfl (by
  intro R args σ k r h
  unfold H90 at h
  split at h
  · rename_i t rw rg lo len nw ov r; exact ⟨100000, (S.rsum_v 100000 r lo len rw rg nw ov t _).trans h⟩
  · cases h)
noncomputable def G90 : Env := Env.add 90 H90 G40
theorem G90_ok : EnvOk Tryz.prog G90 := envAdd_ok H90_ok G40_ok

/-! (*spinnakerref5.Ring).Mean -/
def F55 : FCfg := ⟨keepAt [(0, [0, 1]), (1, [5, 6]), (2, [5, 6, 14]), (3, [4]), (4, [4])], loopAt [], []⟩
noncomputable def S.rmean_L {R : Type} (r : RL) (lo len : Nat) (rw rg nw : Int) (ov : Bool) (t : Int) (k : AVal → List Blk → Option R) : Option R := fnEval tis F55 0 G90 Tryz.f55 [.ptr 0 0 0, .int .i64 t] [.var [.int .i64 rw, .int .i64 rg, .slice 2 1 lo len none, .int .i64 nw, .bool ov], .rows (.pair (.int .i64) (.int .i64)) r false] k
noncomputable def S.rmean_gk {R : Type} (r : RL) (lo len : Nat) (rw rg nw : Int) (ov : Bool) (t : Int) (k : AVal → List Blk → Option R) : (Int × Int × Int × Nat × Nat × Int × Bool × List (Int × Int)) → Option R := (fun v : Int × Int × Int × Nat × Nat × Int × Bool × List (Int × Int) => k (.int .i64 v.1) [(.var [(.int .i64 v.2.1), (.int .i64 v.2.2.1), (.slice 2 1 v.2.2.2.1 v.2.2.2.2.1 none), (.int .i64 v.2.2.2.2.2.1), (.bool v.2.2.2.2.2.2.1)]), (.rows (Cd.pair (Cd.int .i64) (Cd.int .i64)) v.2.2.2.2.2.2.2 false)])
noncomputable def S.rmean (r : RL) (lo len : Nat) (rw rg nw : Int) (ov : Bool) (t : Int) : Option (Int × Int × Int × Nat × Nat × Int × Bool × List (Int × Int)) :=
  (optK (S.rsum 100000 r lo len rw rg nw ov t) fun o2 =>
   bif decide (o2.2.1 = 0) then
   some (0, o2.2.2.1, o2.2.2.2.1, o2.2.2.2.2.1, o2.2.2.2.2.2.1, o2.2.2.2.2.2.2.1, o2.2.2.2.2.2.2.2.1, o2.2.2.2.2.2.2.2.2)
 else
   bif decide (o2.2.1 = 0) then
   none
 else
   some (Go.IntKind.wrap .i64 (Int.tdiv o2.1 o2.2.1), o2.2.2.1, o2.2.2.2.1, o2.2.2.2.2.1, o2.2.2.2.2.2.1, o2.2.2.2.2.2.2.1, o2.2.2.2.2.2.2.2.1, o2.2.2.2.2.2.2.2.2))
theorem S.rmean_v {R : Type} (r : RL) (lo len : Nat) (rw rg nw : Int) (ov : Bool) (t : Int) (k : AVal → List Blk → Option R) : S.rmean_L r lo len rw rg nw ov t k = oK (S.rmean_gk r lo len rw rg nw ov t k) (S.rmean r lo len rw rg nw ov t) :=
  (show S.rmean_L r lo len rw rg nw ov t k =
  ((optK (S.rsum 100000 r lo len rw rg nw ov t) fun o2 =>
   bif decide (o2.2.1 = 0) then
   (S.rmean_gk r lo len rw rg nw ov t k) (0, o2.2.2.1, o2.2.2.2.1, o2.2.2.2.2.1, o2.2.2.2.2.2.1, o2.2.2.2.2.2.2.1, o2.2.2.2.2.2.2.2.1, o2.2.2.2.2.2.2.2.2)
 else
   bif decide (o2.2.1 = 0) then
   none
 else
   (S.rmean_gk r lo len rw rg nw ov t k) (Go.IntKind.wrap .i64 (Int.tdiv o2.1 o2.2.1), o2.2.2.1, o2.2.2.2.1, o2.2.2.2.2.1, o2.2.2.2.2.2.1, o2.2.2.2.2.2.2.1, o2.2.2.2.2.2.2.2.1, o2.2.2.2.2.2.2.2.2))) from by kernel_rfl).trans (opt_lift fun o2 => (bif_lift (f := (oK (S.rmean_gk r lo len rw rg nw ov t k))) rfl (bif_lift (f := (oK (S.rmean_gk r lo len rw rg nw ov t k))) rfl rfl)))
noncomputable def H55 : Hnd := fun R args σ k => match args, σ with
  | [.ptr 0 0 0, .int .i64 t], [.var [.int .i64 rw, .int .i64 rg, .slice 2 1 lo len none, .int .i64 nw, .bool ov], .rows (.pair (.int .i64) (.int .i64)) r false] => oK (fun v : Int × Int × Int × Nat × Nat × Int × Bool × List (Int × Int) => k (.int .i64 v.1) [(.var [(.int .i64 v.2.1), (.int .i64 v.2.2.1), (.slice 2 1 v.2.2.2.1 v.2.2.2.2.1 none), (.int .i64 v.2.2.2.2.2.1), (.bool v.2.2.2.2.2.2.1)]), (.rows (Cd.pair (Cd.int .i64) (Cd.int .i64)) v.2.2.2.2.2.2.2 false)]) (S.rmean r lo len rw rg nw ov t)
  | _, _ => none
theorem H55_ok : HndOk Tryz.prog 55 H55 := hnd_ok tis tisOk mixOk G90_ok F55 Tryz.func55 rfl (by
  intro R args σ k r h
  unfold H55 at h
  split at h
  · rename_i t rw rg lo len nw ov r; exact ⟨0, (S.rmean_v r lo len rw rg nw ov t _).trans h⟩
  · cases h)
noncomputable def G55 : Env := Env.add 55 H55 G90
theorem G55_ok : EnvOk Tryz.prog G55 := envAdd_ok H55_ok G90_ok

/-! (*spinnakerref5.Ring).Resize -/
def F81 : FCfg := ⟨keepAt [(0, [0, 1]), (1, [0, 1, 14]), (2, [4]), (3, [0]), (4, []), (5, [4])], loopAt [], [⟨1, false, 0, [], 2, (.pair (.int .i64) (.int .i64)), none⟩, ⟨2, false, 0, [2], 0, .bool, none⟩, ⟨3, false, 1, [], 0, .bool, none⟩]⟩
noncomputable def S.rresize_L {R : Type} (r : RL) (lo len : Nat) (rw rg nw : Int) (ov : Bool) (w : Int) (k : AVal → List Blk → Option R) : Option R := fnEval tis F81 0 G55 Tryz.f81 [.ptr 0 0 0, .int .i64 w] [.var [.int .i64 rw, .int .i64 rg, .slice 2 1 lo len none, .int .i64 nw, .bool ov], .rows (.pair (.int .i64) (.int .i64)) r false] k
noncomputable def S.rresize_gk {R : Type} (r : RL) (lo len : Nat) (rw rg nw : Int) (ov : Bool) (w : Int) (k : AVal → List Blk → Option R) : (Int × Int × Int × Nat × Nat × Int × Bool × RL) → Option R := (fun v : Int × Int × Int × Nat × Nat × Int × Bool × RL => k (.int .i64 v.1) [(.var [(.int .i64 v.2.1), (.int .i64 v.2.2.1), (.slice 2 2 v.2.2.2.1 v.2.2.2.2.1 none), (.int .i64 v.2.2.2.2.2.1), (.bool v.2.2.2.2.2.2.1)]), .dead, (.rows (Cd.pair (Cd.int .i64) (Cd.int .i64)) v.2.2.2.2.2.2.2 false)])
noncomputable def S.rresize (r : RL) (lo len : Nat) (rw rg nw : Int) (ov : Bool) (w : Int) : Option (Int × Int × Int × Nat × Nat × Int × Bool × RL) :=
  bif decide (w < rg) then
   some (1, rw, rg, lo, len, nw, ov, r)
 else
   bif decide (600 < w) then
   some (1, rw, rg, lo, len, nw, ov, r)
 else
   (optK (S.rforget 100000 r lo len w rg nw ov) fun o4 =>
   some (0, o4.1, o4.2.1, 0, o4.2.2.1, o4.2.2.2.1, o4.2.2.2.2.1, o4.2.2.2.2.2.2))
theorem S.rresize_v {R : Type} (r : RL) (lo len : Nat) (rw rg nw : Int) (ov : Bool) (w : Int) (k : AVal → List Blk → Option R) : S.rresize_L r lo len rw rg nw ov w k = oK (S.rresize_gk r lo len rw rg nw ov w k) (S.rresize r lo len rw rg nw ov w) :=
  (show S.rresize_L r lo len rw rg nw ov w k =
  (bif decide (w < rg) then
   (S.rresize_gk r lo len rw rg nw ov w k) (1, rw, rg, lo, len, nw, ov, r)
 else
   bif decide (600 < w) then
   (S.rresize_gk r lo len rw rg nw ov w k) (1, rw, rg, lo, len, nw, ov, r)
 else
   (optK (S.rforget 100000 r lo len w rg nw ov) fun o4 =>
   (S.rresize_gk r lo len rw rg nw ov w k) (0, o4.1, o4.2.1, 0, o4.2.2.1, o4.2.2.2.1, o4.2.2.2.2.1, o4.2.2.2.2.2.2))) from by kernel_rfl).trans (bif_lift (f := (oK (S.rresize_gk r lo len rw rg nw ov w k))) rfl (bif_lift (f := (oK (S.rresize_gk r lo len rw rg nw ov w k))) rfl (opt_lift fun o4 => rfl)))
noncomputable def H81 : Hnd := fun R args σ k => match args, σ with
  | [.ptr 0 0 0, .int .i64 w], [.var [.int .i64 rw, .int .i64 rg, .slice 2 1 lo len none, .int .i64 nw, .bool ov], .rows (.pair (.int .i64) (.int .i64)) r false] => oK (fun v : Int × Int × Int × Nat × Nat × Int × Bool × RL => k (.int .i64 v.1) [(.var [(.int .i64 v.2.1), (.int .i64 v.2.2.1), (.slice 2 2 v.2.2.2.1 v.2.2.2.2.1 none), (.int .i64 v.2.2.2.2.2.1), (.bool v.2.2.2.2.2.2.1)]), .dead, (.rows (Cd.pair (Cd.int .i64) (Cd.int .i64)) v.2.2.2.2.2.2.2 false)]) (S.rresize r lo len rw rg nw ov w)
  | _, _ => none
theorem H81_ok : HndOk Tryz.prog 81 H81 := hnd_ok tis tisOk mixOk G55_ok F81 Tryz.func81 rfl (by
  intro R args σ k r h
  unfold H81 at h
  split at h
  · rename_i w rw rg lo len nw ov r; exact ⟨0, (S.rresize_v r lo len rw rg nw ov w _).trans h⟩
  · cases h)
noncomputable def G81 : Env := Env.add 81 H81 G55
theorem G81_ok : EnvOk Tryz.prog G81 := envAdd_ok H81_ok G55_ok
end Go.Proofs.YtdgipcjigbagfaaGreat.AB
