/- Rings, as plain functions. -/
import Derived.Test.YtdgipcjigbagfaaSwant
namespace Go.Proofs.Ytdgipcjigbagfaa.AB
set_option linter.unusedVariables false

/-! ring.Buckets -/
def F81 : FCfg := ⟨keepAt [(0, [0, 1]), (1, [4])], loopAt [], []⟩
theorem S.pbuckets_k {R : Type} (w g : Int) (k : AVal → List Blk → Option R) : fnEval tis F81 0 G48 Try.f81 [.int .i64 w, .int .i64 g] [] k =
  (bif decide (g = 0) then
   none
 else
   k (.int .i64 (Go.IntKind.wrap .i64 (Int.tdiv (Go.IntKind.wrap .i64 (Go.IntKind.wrap .i64 (w + g) - 1)) g))) ([])) := by kernel_rfl
noncomputable def S.pbuckets (w g : Int) : Option (Int) :=
  bif decide (g = 0) then
   none
 else
   some (Go.IntKind.wrap .i64 (Int.tdiv (Go.IntKind.wrap .i64 (Go.IntKind.wrap .i64 (w + g) - 1)) g))
noncomputable def S.pbuckets_gk {R : Type} (w g : Int) (k : AVal → List Blk → Option R) : (Int) → Option R := (fun v : Int => k (.int .i64 v) [])
theorem S.pbuckets_v {R : Type} (w g : Int) (k : AVal → List Blk → Option R) : fnEval tis F81 0 G48 Try.f81 [.int .i64 w, .int .i64 g] [] k = oK (fun v : Int => k (.int .i64 v) []) (S.pbuckets w g) :=
  (S.pbuckets_k w g k).trans (bif_lift (f := (oK (S.pbuckets_gk w g k))) rfl rfl)
noncomputable def H81 : Hnd := fun R args σ k => match args, σ with
  | [.int .i64 w, .int .i64 g], [] => oK (fun v : Int => k (.int .i64 v) []) (S.pbuckets w g)
  | _, _ => none
theorem H81_ok : HndOk Try.prog 81 H81 := hnd_ok tis tisOk mixOk G48_ok F81 Try.func81 rfl (by
  intro R args σ k r h
  unfold H81 at h
  split at h
  · rename_i w g; exact ⟨0, (S.pbuckets_v w g _).trans h⟩
  · cases h)
noncomputable def G81 : Env := Env.add 81 H81 G48
theorem G81_ok : EnvOk Try.prog G81 := envAdd_ok H81_ok G48_ok

/-! ring.New -/
def F65 : FCfg := ⟨keepAt [(0, [0, 1]), (1, [0, 1, 19]), (2, [4]), (3, [4])], loopAt [], []⟩
theorem S.pring_k {R : Type} (w g : Int) (k : AVal → List Blk → Option R) : fnEval tis F65 0 G81 Try.f65 [.int .i64 w, .int .i64 g] [] k =
  (bif decide (w < 1) then
   k (.nilp) ([])
 else
   bif decide (600 < w) then
   k (.nilp) ([])
 else
   bif decide (g < 1) then
   k (.nilp) ([])
 else
   bif decide (w < g) then
   k (.nilp) ([])
 else
   (optK (S.pbuckets w g) fun o6 =>
   k (.ptr 0 0 0) ([.var [.nils, .int .i64 w, .int .i64 g, .int .i64 o6, .int .i64 (-1), .bool false]]))) := by kernel_rfl
noncomputable def S.pring (w g : Int) : Option ((Unit) ⊕ (Int × Int × Int)) :=
  bif decide (w < 1) then
   some (.inl ())
 else
   bif decide (600 < w) then
   some (.inl ())
 else
   bif decide (g < 1) then
   some (.inl ())
 else
   bif decide (w < g) then
   some (.inl ())
 else
   (optK (S.pbuckets w g) fun o6 =>
   some (.inr (w, g, o6)))
noncomputable def S.pring_gk {R : Type} (w g : Int) (k : AVal → List Blk → Option R) : ((Unit) ⊕ (Int × Int × Int)) → Option R := (Sum.elim (fun v : Unit => k .nilp []) (fun v : Int × Int × Int => k (.ptr 0 (0) 0) [(.var [.nils, (.int .i64 v.1), (.int .i64 v.2.1), (.int .i64 v.2.2), (.int .i64 (-1)), (.bool (false))])]))
theorem S.pring_v {R : Type} (w g : Int) (k : AVal → List Blk → Option R) : fnEval tis F65 0 G81 Try.f65 [.int .i64 w, .int .i64 g] [] k = oK (Sum.elim (fun v : Unit => k .nilp []) (fun v : Int × Int × Int => k (.ptr 0 (0) 0) [(.var [.nils, (.int .i64 v.1), (.int .i64 v.2.1), (.int .i64 v.2.2), (.int .i64 (-1)), (.bool (false))])])) (S.pring w g) :=
  (S.pring_k w g k).trans (bif_lift (f := (oK (S.pring_gk w g k))) rfl (bif_lift (f := (oK (S.pring_gk w g k))) rfl (bif_lift (f := (oK (S.pring_gk w g k))) rfl (bif_lift (f := (oK (S.pring_gk w g k))) rfl (opt_lift fun o6 => rfl)))))
noncomputable def H65 : Hnd := fun R args σ k => match args, σ with
  | [.int .i64 w, .int .i64 g], [] => oK (Sum.elim (fun v : Unit => k .nilp []) (fun v : Int × Int × Int => k (.ptr 0 (0) 0) [(.var [.nils, (.int .i64 v.1), (.int .i64 v.2.1), (.int .i64 v.2.2), (.int .i64 (-1)), (.bool (false))])])) (S.pring w g)
  | _, _ => none
theorem H65_ok : HndOk Try.prog 65 H65 := hnd_ok tis tisOk mixOk G81_ok F65 Try.func65 rfl (by
  intro R args σ k r h
  unfold H65 at h
  split at h
  · rename_i w g; exact ⟨0, (S.pring_v w g _).trans h⟩
  · cases h)
noncomputable def G65 : Env := Env.add 65 H65 G81
theorem G65_ok : EnvOk Try.prog G65 := envAdd_ok H65_ok G81_ok

/-! (*ring.Ring).forget$1 -/
def F93 : FCfg := ⟨keepAt [(0, [0, 1]), (1, [1, 4, 5]), (2, [3])], loopAt [], []⟩
theorem S.rgone_k {R : Type} (l : FL) (f : BL) (q lo len : Nat) (rw rg rn nw : Int) (ov : Bool) (k : AVal → List Blk → Option R) : fnEval tis F93 0 G65 Try.f93 [.iface 119 (.fptr 0 q 0), .ptr 1 0 0] [.fam 119 (.pair (.int .i64) (.pair (.int .i64) (.pair (.int .i64) .bool))) l f, .var [.ptr 2 0 0], .var [.slice 1 0 lo len none, .int .i64 rw, .int .i64 rg, .int .i64 rn, .int .i64 nw, .bool ov]] k =
  ((optK (f[q]?) fun o2 =>
   k (.bool (decide (rn ≤ Go.IntKind.wrap .i64 (nw - o2.1)))) ([.fam 119 (Cd.pair (Cd.int .i64) (Cd.pair (Cd.int .i64) (Cd.pair (Cd.int .i64) Cd.bool))) l f, .var [.ptr 2 0 0], .var [.slice 1 0 lo len Option.none, .int .i64 rw, .int .i64 rg, .int .i64 rn, .int .i64 nw, .bool ov]]))) := by kernel_rfl
noncomputable def S.rgone (l : FL) (f : BL) (q lo len : Nat) (rw rg rn nw : Int) (ov : Bool) : Option (Bool) :=
  (optK (f[q]?) fun o2 =>
   some (decide (rn ≤ Go.IntKind.wrap .i64 (nw - o2.1))))
noncomputable def S.rgone_gk {R : Type} (l : FL) (f : BL) (q lo len : Nat) (rw rg rn nw : Int) (ov : Bool) (k : AVal → List Blk → Option R) : (Bool) → Option R := (fun v : Bool => k (.bool v) [.fam 119 (.pair (.int .i64) (.pair (.int .i64) (.pair (.int .i64) .bool))) l f, .var [.ptr 2 0 0], .var [.slice 1 0 lo len none, .int .i64 rw, .int .i64 rg, .int .i64 rn, .int .i64 nw, .bool ov]])
theorem S.rgone_v {R : Type} (l : FL) (f : BL) (q lo len : Nat) (rw rg rn nw : Int) (ov : Bool) (k : AVal → List Blk → Option R) : fnEval tis F93 0 G65 Try.f93 [.iface 119 (.fptr 0 q 0), .ptr 1 0 0] [.fam 119 (.pair (.int .i64) (.pair (.int .i64) (.pair (.int .i64) .bool))) l f, .var [.ptr 2 0 0], .var [.slice 1 0 lo len none, .int .i64 rw, .int .i64 rg, .int .i64 rn, .int .i64 nw, .bool ov]] k = oK (fun v : Bool => k (.bool v) [.fam 119 (.pair (.int .i64) (.pair (.int .i64) (.pair (.int .i64) .bool))) l f, .var [.ptr 2 0 0], .var [.slice 1 0 lo len none, .int .i64 rw, .int .i64 rg, .int .i64 rn, .int .i64 nw, .bool ov]]) (S.rgone l f q lo len rw rg rn nw ov) :=
  (S.rgone_k l f q lo len rw rg rn nw ov k).trans (opt_lift fun o2 => rfl)
noncomputable def H93 : Hnd := fun R args σ k => match args, σ with
  | [.iface 119 (.fptr 0 q 0), .ptr 1 0 0], [.fam 119 (.pair (.int .i64) (.pair (.int .i64) (.pair (.int .i64) .bool))) l f, .var [.ptr 2 0 0], .var [.slice 1 0 lo len none, .int .i64 rw, .int .i64 rg, .int .i64 rn, .int .i64 nw, .bool ov]] => oK (fun v : Bool => k (.bool v) []) (S.rgone l f q lo len rw rg rn nw ov)
  | _, _ => none
theorem H93_ok : HndOk Try.prog 93 H93 := hnd_ok_pure tis tisOk mixOk G65_ok F93 Try.func93 rfl (by
  intro R args σ k r h
  unfold H93 at h
  split at h
  · rename_i q l f lo len rw rg rn nw ov; exact ⟨0, (S.rgone_v l f q lo len rw rg rn nw ov _).trans ((congrArg (fun g9 => oK g9 (S.rgone l f q lo len rw rg rn nw ov)) (funext fun v => if_pos rfl)).trans h)⟩
  · cases h)
noncomputable def G93 : Env := Env.add 93 H93 G65
theorem G93_ok : EnvOk Try.prog G93 := envAdd_ok H93_ok G65_ok

/-! (*ring.Ring).Put$1 -/
def F84 : FCfg := ⟨keepAt [(0, [0, 1]), (1, [3])], loopAt [], []⟩
theorem S.rhere_k {R : Type} (l : FL) (f : BL) (q : Nat) (a : Int) (k : AVal → List Blk → Option R) : fnEval tis F84 0 G93 Try.f84 [.iface 119 (.fptr 0 q 0), .ptr 1 0 0] [.fam 119 (.pair (.int .i64) (.pair (.int .i64) (.pair (.int .i64) .bool))) l f, .var [.int .i64 a]] k =
  ((optK (f[q]?) fun o2 =>
   k (.bool (decide (o2.1 = a))) ([.fam 119 (Cd.pair (Cd.int .i64) (Cd.pair (Cd.int .i64) (Cd.pair (Cd.int .i64) Cd.bool))) l f, .var [.int .i64 a]]))) := by kernel_rfl
noncomputable def S.rhere (l : FL) (f : BL) (q : Nat) (a : Int) : Option (Bool) :=
  (optK (f[q]?) fun o2 =>
   some (decide (o2.1 = a)))
noncomputable def S.rhere_gk {R : Type} (l : FL) (f : BL) (q : Nat) (a : Int) (k : AVal → List Blk → Option R) : (Bool) → Option R := (fun v : Bool => k (.bool v) [.fam 119 (.pair (.int .i64) (.pair (.int .i64) (.pair (.int .i64) .bool))) l f, .var [.int .i64 a]])
theorem S.rhere_v {R : Type} (l : FL) (f : BL) (q : Nat) (a : Int) (k : AVal → List Blk → Option R) : fnEval tis F84 0 G93 Try.f84 [.iface 119 (.fptr 0 q 0), .ptr 1 0 0] [.fam 119 (.pair (.int .i64) (.pair (.int .i64) (.pair (.int .i64) .bool))) l f, .var [.int .i64 a]] k = oK (fun v : Bool => k (.bool v) [.fam 119 (.pair (.int .i64) (.pair (.int .i64) (.pair (.int .i64) .bool))) l f, .var [.int .i64 a]]) (S.rhere l f q a) :=
  (S.rhere_k l f q a k).trans (opt_lift fun o2 => rfl)
noncomputable def H84 : Hnd := fun R args σ k => match args, σ with
  | [.iface 119 (.fptr 0 q 0), .ptr 1 0 0], [.fam 119 (.pair (.int .i64) (.pair (.int .i64) (.pair (.int .i64) .bool))) l f, .var [.int .i64 a]] => oK (fun v : Bool => k (.bool v) []) (S.rhere l f q a)
  | _, _ => none
theorem H84_ok : HndOk Try.prog 84 H84 := hnd_ok_pure tis tisOk mixOk G93_ok F84 Try.func84 rfl (by
  intro R args σ k r h
  unfold H84 at h
  split at h
  · rename_i q l f a; exact ⟨0, (S.rhere_v l f q a _).trans ((congrArg (fun g9 => oK g9 (S.rhere l f q a)) (funext fun v => if_pos rfl)).trans h)⟩
  · cases h)
noncomputable def G84 : Env := Env.add 84 H84 G93
theorem G84_ok : EnvOk Try.prog G84 := envAdd_ok H84_ok G93_ok

/-! (*delay.Delay).Put$1 -/
def F73 : FCfg := ⟨keepAt [(0, [0, 1]), (1, [1, 4, 5]), (2, [3])], loopAt [], []⟩
theorem S.dold_k {R : Type} (x w t : Int) (k : AVal → List Blk → Option R) : fnEval tis F73 0 G84 Try.f73 [.iface 106 (.agg [.int .i64 x, .int .i64 w]), .ptr 0 0 0] [.var [.int .i64 t]] k =
  (k (.bool (decide (600 < Go.IntKind.wrap .i64 (t - x)))) ([.var [.int .i64 t]])) := by kernel_rfl
noncomputable def S.dold (x w t : Int) : Bool :=
  (decide (600 < Go.IntKind.wrap .i64 (t - x)))
theorem S.dold_v {R : Type} (x w t : Int) (k : AVal → List Blk → Option R) : fnEval tis F73 0 G84 Try.f73 [.iface 106 (.agg [.int .i64 x, .int .i64 w]), .ptr 0 0 0] [.var [.int .i64 t]] k = k (.bool (S.dold x w t)) [.var [.int .i64 t]] :=
  (S.dold_k x w t k).trans rfl
theorem S.dold1_k {R : Type} (t : Int) (k : AVal → List Blk → Option R) : fnEval tis F73 0 G84 Try.f73 [.nili, .ptr 0 0 0] [.var [.int .i64 t]] k =
  (k (.bool true) ([.var [.int .i64 t]])) := by kernel_rfl
noncomputable def S.dold1 (t : Int) : Bool :=
  (true)
theorem S.dold1_v {R : Type} (t : Int) (k : AVal → List Blk → Option R) : fnEval tis F73 0 G84 Try.f73 [.nili, .ptr 0 0 0] [.var [.int .i64 t]] k = k (.bool (S.dold1 t)) [.var [.int .i64 t]] :=
  (S.dold1_k t k).trans rfl
noncomputable def H73 : Hnd := fun R args σ k => match args, σ with
  | [.iface 106 (.agg [.int .i64 x, .int .i64 w]), .ptr 0 0 0], [.var [.int .i64 t]] => k (.bool (S.dold x w t)) []
  | [.nili, .ptr 0 0 0], [.var [.int .i64 t]] => k (.bool (S.dold1 t)) []
  | _, _ => none
theorem H73_ok : HndOk Try.prog 73 H73 := hnd_ok_pure tis tisOk mixOk G84_ok F73 Try.func73 rfl (by
  intro R args σ k r h
  unfold H73 at h
  split at h
  · rename_i x w t; exact ⟨0, (S.dold_v x w t _).trans ((if_pos rfl).trans h)⟩
  · rename_i t; exact ⟨0, (S.dold1_v t _).trans ((if_pos rfl).trans h)⟩
  · cases h)
noncomputable def G73 : Env := Env.add 73 H73 G84
theorem G73_ok : EnvOk Try.prog G73 := envAdd_ok H73_ok G84_ok

/-! slices.IndexFunc[[]any,any] -/
def F83 : FCfg := ⟨keepAt [(0, [0, 1]), (1, [0, 1, 7, 8]), (2, [0, 1, 7, 8, 9]), (3, [0, 1, 5, 7, 8]), (4, [0, 1, 5, 7, 8, 16]), (5, [4]), (6, [0, 1, 7, 8]), (7, [4])], loopAt [(2, [0, 1, 7, 8], [])], []⟩
noncomputable def C_rix (fu : Nat) (l : FL) (f : BL) (lo len lo2 len2 : Nat) (rw rg rn nw : Int) (ov : Bool) : Cfg := Cfg.of tis F83 fu (List.length ([.fam 119 (.pair (.int .i64) (.pair (.int .i64) (.pair (.int .i64) .bool))) l f, .var [.ptr 2 0 0], .var [.slice 1 0 lo2 len2 none, .int .i64 rw, .int .i64 rg, .int .i64 rn, .int .i64 nw, .bool ov]] : List Blk)) Try.f83.ntmps
noncomputable def S.rix_b0 : Code := codeAt (bodyOf Try.f83) [1, 0, 1, 0, 0]
noncomputable def S.rix_s0 (l : FL) (f : BL) (lo len lo2 len2 : Nat) (rw rg rn nw : Int) (ov : Bool) (y0 : Int) : St := ⟨[(0, (.slice 1 0 (lo) (len) none)), (1, (.func 93 [(.ptr 1 (0) 0)])), (7, (.int .i64 (((len : Nat) : Int)))), (8, (.int .i64 (y0)))], [(.fam 119 (Cd.pair (Cd.int .i64) (Cd.pair (Cd.int .i64) (Cd.pair (Cd.int .i64) Cd.bool))) (l) (f)), (.var [(.ptr 2 (0) 0)]), (.var [(.slice 1 0 (lo2) (len2) none), (.int .i64 (rw)), (.int .i64 (rg)), (.int .i64 (rn)), (.int .i64 (nw)), (.bool (ov))])]⟩
noncomputable def S.rix_x0_0 (l : FL) (f : BL) (lo len lo2 len2 : Nat) (rw rg rn nw : Int) (ov : Bool) (z0 : Int) : St := ⟨[(4, (.int .i64 (z0)))], [(.fam 119 (Cd.pair (Cd.int .i64) (Cd.pair (Cd.int .i64) (Cd.pair (Cd.int .i64) Cd.bool))) (l) (f)), (.var [(.ptr 2 (0) 0)]), (.var [(.slice 1 0 (lo2) (len2) none), (.int .i64 (rw)), (.int .i64 (rg)), (.int .i64 (rn)), (.int .i64 (nw)), (.bool (ov))])]⟩
noncomputable def S.rix_x0_1 (l : FL) (f : BL) (lo len lo2 len2 : Nat) (rw rg rn nw : Int) (ov : Bool) (z0 : Int) (z1 : Bool) : St := ⟨[(0, (.slice 1 0 (lo) (len) none)), (1, (.func 93 [(.ptr 1 (0) 0)])), (7, (.int .i64 (((len : Nat) : Int)))), (8, (.int .i64 (z0))), (9, (.bool (z1)))], [(.fam 119 (Cd.pair (Cd.int .i64) (Cd.pair (Cd.int .i64) (Cd.pair (Cd.int .i64) Cd.bool))) (l) (f)), (.var [(.ptr 2 (0) 0)]), (.var [(.slice 1 0 (lo2) (len2) none), (.int .i64 (rw)), (.int .i64 (rg)), (.int .i64 (rn)), (.int .i64 (nw)), (.bool (ov))])]⟩
noncomputable def S.rix_g0 {R : Type} (l : FL) (f : BL) (lo len lo2 len2 : Nat) (rw rg rn nw : Int) (ov : Bool) (K : Ex → St → Option R) : ((Int) ⊕ (Int × Bool)) → Option R := (Sum.elim (fun z : Int => K (Ex.ret) (S.rix_x0_0 l f lo len lo2 len2 rw rg rn nw ov (z))) (fun z : Int × Bool => K (Ex.exit 0) (S.rix_x0_1 l f lo len lo2 len2 rw rg rn nw ov (z.1) (z.2))))
noncomputable def S.rix_gk {R : Type} (l : FL) (f : BL) (lo len lo2 len2 : Nat) (rw rg rn nw : Int) (ov : Bool) (k : AVal → List Blk → Option R) : (Int) → Option R := (fun v : Int => k (.int .i64 v) [.fam 119 (.pair (.int .i64) (.pair (.int .i64) (.pair (.int .i64) .bool))) l f, .var [.ptr 2 0 0], .var [.slice 1 0 lo2 len2 none, .int .i64 rw, .int .i64 rg, .int .i64 rn, .int .i64 nw, .bool ov]])
theorem S.rix_l0_k {R : Type} (fu : Nat) (l : FL) (f : BL) (lo len lo2 len2 : Nat) (rw rg rn nw : Int) (ov : Bool) (n : Nat) (K : Ex → St → Option R) (y0 : Int) : loopRun (C_rix fu l f lo len lo2 len2 rw rg rn nw ov) G73 S.rix_b0 (n + 1) (S.rix_s0 l f lo len lo2 len2 rw rg rn nw ov (y0)) K =
  (bif decide (y0 < ((len : Nat) : Int)) then
   bif inB y0 len then
   (optK (l[Int.toNat y0 + lo]?) fun o4 =>
   (optK (o4) fun o5 =>
   (optK (S.rgone l f o5 lo2 len2 rw rg rn nw ov) fun o6 =>
   bif o6 then
   K (Ex.ret) (S.rix_x0_0 l f lo len lo2 len2 rw rg rn nw ov (y0))
 else
   loopRun (C_rix fu l f lo len lo2 len2 rw rg rn nw ov) G73 S.rix_b0 n (S.rix_s0 l f lo len lo2 len2 rw rg rn nw ov (Go.IntKind.wrap .i64 (y0 + 1))) K)))
 else
   none
 else
   K (Ex.exit 0) (S.rix_x0_1 l f lo len lo2 len2 rw rg rn nw ov (y0) (decide (y0 < ((len : Nat) : Int))))) := by kernel_rfl
noncomputable def S.rix_l0 (fu : Nat) (l : FL) (f : BL) (lo len lo2 len2 : Nat) (rw rg rn nw : Int) (ov : Bool) : Nat → (Int) → Option ((Int) ⊕ (Int × Bool))
  | 0, _ => none
  | n + 1, y0 =>
    bif decide (y0 < ((len : Nat) : Int)) then
   bif inB y0 len then
   (optK (l[Int.toNat y0 + lo]?) fun o4 =>
   (optK (o4) fun o5 =>
   (optK (S.rgone l f o5 lo2 len2 rw rg rn nw ov) fun o6 =>
   bif o6 then
   some (.inl (y0))
 else
   (S.rix_l0 fu l f lo len lo2 len2 rw rg rn nw ov n) (Go.IntKind.wrap .i64 (y0 + 1)))))
 else
   none
 else
   some (.inr (y0, decide (y0 < ((len : Nat) : Int))))
theorem S.rix_l0_v {R : Type} (fu : Nat) (l : FL) (f : BL) (lo len lo2 len2 : Nat) (rw rg rn nw : Int) (ov : Bool) (K : Ex → St → Option R) : ∀ (n : Nat) (y0 : Int), loopRun (C_rix fu l f lo len lo2 len2 rw rg rn nw ov) G73 S.rix_b0 n (S.rix_s0 l f lo len lo2 len2 rw rg rn nw ov (y0)) K = oK (β := (Int) ⊕ (Int × Bool)) (S.rix_g0 l f lo len lo2 len2 rw rg rn nw ov K) (S.rix_l0 fu l f lo len lo2 len2 rw rg rn nw ov n y0)
  | 0, _ => rfl
  | n + 1, y0 => (S.rix_l0_k fu l f lo len lo2 len2 rw rg rn nw ov n K y0).trans (bif_lift (f := (oK (S.rix_g0 l f lo len lo2 len2 rw rg rn nw ov K))) (bif_lift (f := (oK (S.rix_g0 l f lo len lo2 len2 rw rg rn nw ov K))) (opt_lift fun o4 => (opt_lift fun o5 => (opt_lift fun o6 => (bif_lift (f := (oK (S.rix_g0 l f lo len lo2 len2 rw rg rn nw ov K))) rfl (S.rix_l0_v fu l f lo len lo2 len2 rw rg rn nw ov K n (Go.IntKind.wrap .i64 (y0 + 1))))))) rfl) rfl)
theorem S.rix_a0_1_k {R : Type} (fu : Nat) (l : FL) (f : BL) (lo len lo2 len2 : Nat) (rw rg rn nw : Int) (ov : Bool) (z0 : Int) (z1 : Bool) (k : AVal → List Blk → Option R) : contOf (C_rix fu l f lo len lo2 len2 rw rg rn nw ov) G73 (bodyOf Try.f83) [1, 0, 1, 0] (retK tis F83 Try.f83 (List.length ([.fam 119 (.pair (.int .i64) (.pair (.int .i64) (.pair (.int .i64) .bool))) l f, .var [.ptr 2 0 0], .var [.slice 1 0 lo2 len2 none, .int .i64 rw, .int .i64 rg, .int .i64 rn, .int .i64 nw, .bool ov]] : List Blk)) k) (Ex.exit 0) (S.rix_x0_1 l f lo len lo2 len2 rw rg rn nw ov (z0) (z1)) =
  (k (.int .i64 (-1)) ([.fam 119 (Cd.pair (Cd.int .i64) (Cd.pair (Cd.int .i64) (Cd.pair (Cd.int .i64) Cd.bool))) l f, .var [.ptr 2 0 0], .var [.slice 1 0 lo2 len2 Option.none, .int .i64 rw, .int .i64 rg, .int .i64 rn, .int .i64 nw, .bool ov]])) := by kernel_rfl
noncomputable def S.rix_a0_1 (fu : Nat) (l : FL) (f : BL) (lo len lo2 len2 : Nat) (rw rg rn nw : Int) (ov : Bool) (z0 : Int) (z1 : Bool) : Option (Int) :=
  some (-1)
theorem S.rix_a0_1_v {R : Type} (fu : Nat) (l : FL) (f : BL) (lo len lo2 len2 : Nat) (rw rg rn nw : Int) (ov : Bool) (z0 : Int) (z1 : Bool) (k : AVal → List Blk → Option R) : contOf (C_rix fu l f lo len lo2 len2 rw rg rn nw ov) G73 (bodyOf Try.f83) [1, 0, 1, 0] (retK tis F83 Try.f83 (List.length ([.fam 119 (.pair (.int .i64) (.pair (.int .i64) (.pair (.int .i64) .bool))) l f, .var [.ptr 2 0 0], .var [.slice 1 0 lo2 len2 none, .int .i64 rw, .int .i64 rg, .int .i64 rn, .int .i64 nw, .bool ov]] : List Blk)) k) (Ex.exit 0) (S.rix_x0_1 l f lo len lo2 len2 rw rg rn nw ov (z0) (z1)) = oK (S.rix_gk l f lo len lo2 len2 rw rg rn nw ov k) (S.rix_a0_1 fu l f lo len lo2 len2 rw rg rn nw ov z0 z1) :=
  (S.rix_a0_1_k fu l f lo len lo2 len2 rw rg rn nw ov z0 z1 k).trans rfl
theorem S.rix_a0_0_k {R : Type} (fu : Nat) (l : FL) (f : BL) (lo len lo2 len2 : Nat) (rw rg rn nw : Int) (ov : Bool) (z0 : Int) (k : AVal → List Blk → Option R) : contOf (C_rix fu l f lo len lo2 len2 rw rg rn nw ov) G73 (bodyOf Try.f83) [1, 0, 1, 0] (retK tis F83 Try.f83 (List.length ([.fam 119 (.pair (.int .i64) (.pair (.int .i64) (.pair (.int .i64) .bool))) l f, .var [.ptr 2 0 0], .var [.slice 1 0 lo2 len2 none, .int .i64 rw, .int .i64 rg, .int .i64 rn, .int .i64 nw, .bool ov]] : List Blk)) k) (Ex.ret) (S.rix_x0_0 l f lo len lo2 len2 rw rg rn nw ov (z0)) =
  (k (.int .i64 z0) ([.fam 119 (Cd.pair (Cd.int .i64) (Cd.pair (Cd.int .i64) (Cd.pair (Cd.int .i64) Cd.bool))) l f, .var [.ptr 2 0 0], .var [.slice 1 0 lo2 len2 Option.none, .int .i64 rw, .int .i64 rg, .int .i64 rn, .int .i64 nw, .bool ov]])) := by kernel_rfl
noncomputable def S.rix_a0_0 (fu : Nat) (l : FL) (f : BL) (lo len lo2 len2 : Nat) (rw rg rn nw : Int) (ov : Bool) (z0 : Int) : Option (Int) :=
  some (z0)
theorem S.rix_a0_0_v {R : Type} (fu : Nat) (l : FL) (f : BL) (lo len lo2 len2 : Nat) (rw rg rn nw : Int) (ov : Bool) (z0 : Int) (k : AVal → List Blk → Option R) : contOf (C_rix fu l f lo len lo2 len2 rw rg rn nw ov) G73 (bodyOf Try.f83) [1, 0, 1, 0] (retK tis F83 Try.f83 (List.length ([.fam 119 (.pair (.int .i64) (.pair (.int .i64) (.pair (.int .i64) .bool))) l f, .var [.ptr 2 0 0], .var [.slice 1 0 lo2 len2 none, .int .i64 rw, .int .i64 rg, .int .i64 rn, .int .i64 nw, .bool ov]] : List Blk)) k) (Ex.ret) (S.rix_x0_0 l f lo len lo2 len2 rw rg rn nw ov (z0)) = oK (S.rix_gk l f lo len lo2 len2 rw rg rn nw ov k) (S.rix_a0_0 fu l f lo len lo2 len2 rw rg rn nw ov z0) :=
  (S.rix_a0_0_k fu l f lo len lo2 len2 rw rg rn nw ov z0 k).trans rfl
theorem S.rix_k {R : Type} (fu : Nat) (l : FL) (f : BL) (lo len lo2 len2 : Nat) (rw rg rn nw : Int) (ov : Bool) (k : AVal → List Blk → Option R) : fnEval tis F83 fu G73 Try.f83 [.slice 1 0 lo len none, .func 93 [.ptr 1 0 0]] [.fam 119 (.pair (.int .i64) (.pair (.int .i64) (.pair (.int .i64) .bool))) l f, .var [.ptr 2 0 0], .var [.slice 1 0 lo2 len2 none, .int .i64 rw, .int .i64 rg, .int .i64 rn, .int .i64 nw, .bool ov]] k =
  (loopRun (C_rix fu l f lo len lo2 len2 rw rg rn nw ov) G73 S.rix_b0 fu (S.rix_s0 l f lo len lo2 len2 rw rg rn nw ov (0)) (contOf (C_rix fu l f lo len lo2 len2 rw rg rn nw ov) G73 (bodyOf Try.f83) [1, 0, 1, 0] (retK tis F83 Try.f83 (List.length ([.fam 119 (.pair (.int .i64) (.pair (.int .i64) (.pair (.int .i64) .bool))) l f, .var [.ptr 2 0 0], .var [.slice 1 0 lo2 len2 none, .int .i64 rw, .int .i64 rg, .int .i64 rn, .int .i64 nw, .bool ov]] : List Blk)) k))) := by kernel_rfl
noncomputable def S.rix (fu : Nat) (l : FL) (f : BL) (lo len lo2 len2 : Nat) (rw rg rn nw : Int) (ov : Bool) : Option (Int) :=
  optK (S.rix_l0 fu l f lo len lo2 len2 rw rg rn nw ov fu (0)) (Sum.elim (fun z : Int => S.rix_a0_0 fu l f lo len lo2 len2 rw rg rn nw ov (z)) (fun z : Int × Bool => S.rix_a0_1 fu l f lo len lo2 len2 rw rg rn nw ov (z.1) (z.2)))
theorem S.rix_v {R : Type} (fu : Nat) (l : FL) (f : BL) (lo len lo2 len2 : Nat) (rw rg rn nw : Int) (ov : Bool) (k : AVal → List Blk → Option R) : fnEval tis F83 fu G73 Try.f83 [.slice 1 0 lo len none, .func 93 [.ptr 1 0 0]] [.fam 119 (.pair (.int .i64) (.pair (.int .i64) (.pair (.int .i64) .bool))) l f, .var [.ptr 2 0 0], .var [.slice 1 0 lo2 len2 none, .int .i64 rw, .int .i64 rg, .int .i64 rn, .int .i64 nw, .bool ov]] k = oK (fun v : Int => k (.int .i64 v) [.fam 119 (.pair (.int .i64) (.pair (.int .i64) (.pair (.int .i64) .bool))) l f, .var [.ptr 2 0 0], .var [.slice 1 0 lo2 len2 none, .int .i64 rw, .int .i64 rg, .int .i64 rn, .int .i64 nw, .bool ov]]) (S.rix fu l f lo len lo2 len2 rw rg rn nw ov) :=
  (S.rix_k fu l f lo len lo2 len2 rw rg rn nw ov k).trans (arr_lift (S.rix_l0_v fu l f lo len lo2 len2 rw rg rn nw ov (contOf (C_rix fu l f lo len lo2 len2 rw rg rn nw ov) G73 (bodyOf Try.f83) [1, 0, 1, 0] (retK tis F83 Try.f83 (List.length ([.fam 119 (.pair (.int .i64) (.pair (.int .i64) (.pair (.int .i64) .bool))) l f, .var [.ptr 2 0 0], .var [.slice 1 0 lo2 len2 none, .int .i64 rw, .int .i64 rg, .int .i64 rn, .int .i64 nw, .bool ov]] : List Blk)) k)) fu (0)) ((sum_lift (fun z => S.rix_a0_0_v fu l f lo len lo2 len2 rw rg rn nw ov (z) k) (fun z => S.rix_a0_1_v fu l f lo len lo2 len2 rw rg rn nw ov (z.1) (z.2) k))))
noncomputable def C_rix1 (fu : Nat) (rw rg rn nw : Int) (ov : Bool) : Cfg := Cfg.of tis F83 fu (List.length ([.var [.ptr 1 0 0], .var [.nils, .int .i64 rw, .int .i64 rg, .int .i64 rn, .int .i64 nw, .bool ov]] : List Blk)) Try.f83.ntmps
noncomputable def S.rix1_b0 : Code := codeAt (bodyOf Try.f83) [1, 0, 1, 0, 0]
noncomputable def S.rix1_s0 (rw rg rn nw : Int) (ov : Bool)  : St := ⟨[(0, .nils), (1, (.func 93 [(.ptr 0 (0) 0)])), (7, (.int .i64 (0))), (8, (.int .i64 (0)))], [(.var [(.ptr 1 (0) 0)]), (.var [.nils, (.int .i64 (rw)), (.int .i64 (rg)), (.int .i64 (rn)), (.int .i64 (nw)), (.bool (ov))])]⟩
noncomputable def S.rix1_x0_0 (rw rg rn nw : Int) (ov : Bool)  : St := ⟨[(0, .nils), (1, (.func 93 [(.ptr 0 (0) 0)])), (7, (.int .i64 (0))), (8, (.int .i64 (0))), (9, (.bool (false)))], [(.var [(.ptr 1 (0) 0)]), (.var [.nils, (.int .i64 (rw)), (.int .i64 (rg)), (.int .i64 (rn)), (.int .i64 (nw)), (.bool (ov))])]⟩
noncomputable def S.rix1_g0 {R : Type} (rw rg rn nw : Int) (ov : Bool) (K : Ex → St → Option R) : ((Unit)) → Option R := (fun z : Unit => K (Ex.exit 0) (S.rix1_x0_0 rw rg rn nw ov))
noncomputable def S.rix1_gk {R : Type} (rw rg rn nw : Int) (ov : Bool) (k : AVal → List Blk → Option R) : (Int) → Option R := (fun v : Int => k (.int .i64 v) [.var [.ptr 1 0 0], .var [.nils, .int .i64 rw, .int .i64 rg, .int .i64 rn, .int .i64 nw, .bool ov]])
theorem S.rix1_l0_k {R : Type} (fu : Nat) (rw rg rn nw : Int) (ov : Bool) (n : Nat) (K : Ex → St → Option R)  : loopRun (C_rix1 fu rw rg rn nw ov) G73 S.rix1_b0 (n + 1) (S.rix1_s0 rw rg rn nw ov) K =
  (K (Ex.exit 0) (S.rix1_x0_0 rw rg rn nw ov)) := by kernel_rfl
noncomputable def S.rix1_l0 (fu : Nat) (rw rg rn nw : Int) (ov : Bool) : Nat → Option ((Unit))
  | 0 => none
  | n + 1 =>
    some ()
theorem S.rix1_l0_v {R : Type} (fu : Nat) (rw rg rn nw : Int) (ov : Bool) (K : Ex → St → Option R) : ∀ (n : Nat) , loopRun (C_rix1 fu rw rg rn nw ov) G73 S.rix1_b0 n (S.rix1_s0 rw rg rn nw ov) K = oK (β := (Unit)) (S.rix1_g0 rw rg rn nw ov K) (S.rix1_l0 fu rw rg rn nw ov n)
  | 0 => rfl
  | n + 1 => (S.rix1_l0_k fu rw rg rn nw ov n K).trans rfl
theorem S.rix1_a0_0_k {R : Type} (fu : Nat) (rw rg rn nw : Int) (ov : Bool)  (k : AVal → List Blk → Option R) : contOf (C_rix1 fu rw rg rn nw ov) G73 (bodyOf Try.f83) [1, 0, 1, 0] (retK tis F83 Try.f83 (List.length ([.var [.ptr 1 0 0], .var [.nils, .int .i64 rw, .int .i64 rg, .int .i64 rn, .int .i64 nw, .bool ov]] : List Blk)) k) (Ex.exit 0) (S.rix1_x0_0 rw rg rn nw ov) =
  (k (.int .i64 (-1)) ([.var [.ptr 1 0 0], .var [.nils, .int .i64 rw, .int .i64 rg, .int .i64 rn, .int .i64 nw, .bool ov]])) := by kernel_rfl
noncomputable def S.rix1_a0_0 (fu : Nat) (rw rg rn nw : Int) (ov : Bool)  : Option (Int) :=
  some (-1)
theorem S.rix1_a0_0_v {R : Type} (fu : Nat) (rw rg rn nw : Int) (ov : Bool)  (k : AVal → List Blk → Option R) : contOf (C_rix1 fu rw rg rn nw ov) G73 (bodyOf Try.f83) [1, 0, 1, 0] (retK tis F83 Try.f83 (List.length ([.var [.ptr 1 0 0], .var [.nils, .int .i64 rw, .int .i64 rg, .int .i64 rn, .int .i64 nw, .bool ov]] : List Blk)) k) (Ex.exit 0) (S.rix1_x0_0 rw rg rn nw ov) = oK (S.rix1_gk rw rg rn nw ov k) (S.rix1_a0_0 fu rw rg rn nw ov) :=
  (S.rix1_a0_0_k fu rw rg rn nw ov k).trans rfl
theorem S.rix1_k {R : Type} (fu : Nat) (rw rg rn nw : Int) (ov : Bool) (k : AVal → List Blk → Option R) : fnEval tis F83 fu G73 Try.f83 [.nils, .func 93 [.ptr 0 0 0]] [.var [.ptr 1 0 0], .var [.nils, .int .i64 rw, .int .i64 rg, .int .i64 rn, .int .i64 nw, .bool ov]] k =
  (loopRun (C_rix1 fu rw rg rn nw ov) G73 S.rix1_b0 fu (S.rix1_s0 rw rg rn nw ov) (contOf (C_rix1 fu rw rg rn nw ov) G73 (bodyOf Try.f83) [1, 0, 1, 0] (retK tis F83 Try.f83 (List.length ([.var [.ptr 1 0 0], .var [.nils, .int .i64 rw, .int .i64 rg, .int .i64 rn, .int .i64 nw, .bool ov]] : List Blk)) k))) := by kernel_rfl
noncomputable def S.rix1 (fu : Nat) (rw rg rn nw : Int) (ov : Bool) : Option (Int) :=
  optK (S.rix1_l0 fu rw rg rn nw ov fu) (fun z : Unit => S.rix1_a0_0 fu rw rg rn nw ov)
theorem S.rix1_v {R : Type} (fu : Nat) (rw rg rn nw : Int) (ov : Bool) (k : AVal → List Blk → Option R) : fnEval tis F83 fu G73 Try.f83 [.nils, .func 93 [.ptr 0 0 0]] [.var [.ptr 1 0 0], .var [.nils, .int .i64 rw, .int .i64 rg, .int .i64 rn, .int .i64 nw, .bool ov]] k = oK (fun v : Int => k (.int .i64 v) [.var [.ptr 1 0 0], .var [.nils, .int .i64 rw, .int .i64 rg, .int .i64 rn, .int .i64 nw, .bool ov]]) (S.rix1 fu rw rg rn nw ov) :=
  (S.rix1_k fu rw rg rn nw ov k).trans (arr_lift (S.rix1_l0_v fu rw rg rn nw ov (contOf (C_rix1 fu rw rg rn nw ov) G73 (bodyOf Try.f83) [1, 0, 1, 0] (retK tis F83 Try.f83 (List.length ([.var [.ptr 1 0 0], .var [.nils, .int .i64 rw, .int .i64 rg, .int .i64 rn, .int .i64 nw, .bool ov]] : List Blk)) k)) fu) ((fun z => S.rix1_a0_0_v fu rw rg rn nw ov k)))
noncomputable def C_rix2 (fu : Nat) (l : FL) (f : BL) (lo len : Nat) (a : Int) : Cfg := Cfg.of tis F83 fu (List.length ([.fam 119 (.pair (.int .i64) (.pair (.int .i64) (.pair (.int .i64) .bool))) l f, .var [.int .i64 a]] : List Blk)) Try.f83.ntmps
noncomputable def S.rix2_b0 : Code := codeAt (bodyOf Try.f83) [1, 0, 1, 0, 0]
noncomputable def S.rix2_s0 (l : FL) (f : BL) (lo len : Nat) (a : Int) (y0 : Int) : St := ⟨[(0, (.slice 1 0 (lo) (len) none)), (1, (.func 84 [(.ptr 1 (0) 0)])), (7, (.int .i64 (((len : Nat) : Int)))), (8, (.int .i64 (y0)))], [(.fam 119 (Cd.pair (Cd.int .i64) (Cd.pair (Cd.int .i64) (Cd.pair (Cd.int .i64) Cd.bool))) (l) (f)), (.var [(.int .i64 (a))])]⟩
noncomputable def S.rix2_x0_0 (l : FL) (f : BL) (lo len : Nat) (a : Int) (z0 : Int) : St := ⟨[(4, (.int .i64 (z0)))], [(.fam 119 (Cd.pair (Cd.int .i64) (Cd.pair (Cd.int .i64) (Cd.pair (Cd.int .i64) Cd.bool))) (l) (f)), (.var [(.int .i64 (a))])]⟩
noncomputable def S.rix2_x0_1 (l : FL) (f : BL) (lo len : Nat) (a : Int) (z0 : Int) (z1 : Bool) : St := ⟨[(0, (.slice 1 0 (lo) (len) none)), (1, (.func 84 [(.ptr 1 (0) 0)])), (7, (.int .i64 (((len : Nat) : Int)))), (8, (.int .i64 (z0))), (9, (.bool (z1)))], [(.fam 119 (Cd.pair (Cd.int .i64) (Cd.pair (Cd.int .i64) (Cd.pair (Cd.int .i64) Cd.bool))) (l) (f)), (.var [(.int .i64 (a))])]⟩
noncomputable def S.rix2_g0 {R : Type} (l : FL) (f : BL) (lo len : Nat) (a : Int) (K : Ex → St → Option R) : ((Int) ⊕ (Int × Bool)) → Option R := (Sum.elim (fun z : Int => K (Ex.ret) (S.rix2_x0_0 l f lo len a (z))) (fun z : Int × Bool => K (Ex.exit 0) (S.rix2_x0_1 l f lo len a (z.1) (z.2))))
noncomputable def S.rix2_gk {R : Type} (l : FL) (f : BL) (lo len : Nat) (a : Int) (k : AVal → List Blk → Option R) : (Int) → Option R := (fun v : Int => k (.int .i64 v) [.fam 119 (.pair (.int .i64) (.pair (.int .i64) (.pair (.int .i64) .bool))) l f, .var [.int .i64 a]])
theorem S.rix2_l0_k {R : Type} (fu : Nat) (l : FL) (f : BL) (lo len : Nat) (a : Int) (n : Nat) (K : Ex → St → Option R) (y0 : Int) : loopRun (C_rix2 fu l f lo len a) G73 S.rix2_b0 (n + 1) (S.rix2_s0 l f lo len a (y0)) K =
  (bif decide (y0 < ((len : Nat) : Int)) then
   bif inB y0 len then
   (optK (l[Int.toNat y0 + lo]?) fun o4 =>
   (optK (o4) fun o5 =>
   (optK (S.rhere l f o5 a) fun o6 =>
   bif o6 then
   K (Ex.ret) (S.rix2_x0_0 l f lo len a (y0))
 else
   loopRun (C_rix2 fu l f lo len a) G73 S.rix2_b0 n (S.rix2_s0 l f lo len a (Go.IntKind.wrap .i64 (y0 + 1))) K)))
 else
   none
 else
   K (Ex.exit 0) (S.rix2_x0_1 l f lo len a (y0) (decide (y0 < ((len : Nat) : Int))))) := by kernel_rfl
noncomputable def S.rix2_l0 (fu : Nat) (l : FL) (f : BL) (lo len : Nat) (a : Int) : Nat → (Int) → Option ((Int) ⊕ (Int × Bool))
  | 0, _ => none
  | n + 1, y0 =>
    bif decide (y0 < ((len : Nat) : Int)) then
   bif inB y0 len then
   (optK (l[Int.toNat y0 + lo]?) fun o4 =>
   (optK (o4) fun o5 =>
   (optK (S.rhere l f o5 a) fun o6 =>
   bif o6 then
   some (.inl (y0))
 else
   (S.rix2_l0 fu l f lo len a n) (Go.IntKind.wrap .i64 (y0 + 1)))))
 else
   none
 else
   some (.inr (y0, decide (y0 < ((len : Nat) : Int))))
theorem S.rix2_l0_v {R : Type} (fu : Nat) (l : FL) (f : BL) (lo len : Nat) (a : Int) (K : Ex → St → Option R) : ∀ (n : Nat) (y0 : Int), loopRun (C_rix2 fu l f lo len a) G73 S.rix2_b0 n (S.rix2_s0 l f lo len a (y0)) K = oK (β := (Int) ⊕ (Int × Bool)) (S.rix2_g0 l f lo len a K) (S.rix2_l0 fu l f lo len a n y0)
  | 0, _ => rfl
  | n + 1, y0 => (S.rix2_l0_k fu l f lo len a n K y0).trans (bif_lift (f := (oK (S.rix2_g0 l f lo len a K))) (bif_lift (f := (oK (S.rix2_g0 l f lo len a K))) (opt_lift fun o4 => (opt_lift fun o5 => (opt_lift fun o6 => (bif_lift (f := (oK (S.rix2_g0 l f lo len a K))) rfl (S.rix2_l0_v fu l f lo len a K n (Go.IntKind.wrap .i64 (y0 + 1))))))) rfl) rfl)
theorem S.rix2_a0_1_k {R : Type} (fu : Nat) (l : FL) (f : BL) (lo len : Nat) (a : Int) (z0 : Int) (z1 : Bool) (k : AVal → List Blk → Option R) : contOf (C_rix2 fu l f lo len a) G73 (bodyOf Try.f83) [1, 0, 1, 0] (retK tis F83 Try.f83 (List.length ([.fam 119 (.pair (.int .i64) (.pair (.int .i64) (.pair (.int .i64) .bool))) l f, .var [.int .i64 a]] : List Blk)) k) (Ex.exit 0) (S.rix2_x0_1 l f lo len a (z0) (z1)) =
  (k (.int .i64 (-1)) ([.fam 119 (Cd.pair (Cd.int .i64) (Cd.pair (Cd.int .i64) (Cd.pair (Cd.int .i64) Cd.bool))) l f, .var [.int .i64 a]])) := by kernel_rfl
noncomputable def S.rix2_a0_1 (fu : Nat) (l : FL) (f : BL) (lo len : Nat) (a : Int) (z0 : Int) (z1 : Bool) : Option (Int) :=
  some (-1)
theorem S.rix2_a0_1_v {R : Type} (fu : Nat) (l : FL) (f : BL) (lo len : Nat) (a : Int) (z0 : Int) (z1 : Bool) (k : AVal → List Blk → Option R) : contOf (C_rix2 fu l f lo len a) G73 (bodyOf Try.f83) [1, 0, 1, 0] (retK tis F83 Try.f83 (List.length ([.fam 119 (.pair (.int .i64) (.pair (.int .i64) (.pair (.int .i64) .bool))) l f, .var [.int .i64 a]] : List Blk)) k) (Ex.exit 0) (S.rix2_x0_1 l f lo len a (z0) (z1)) = oK (S.rix2_gk l f lo len a k) (S.rix2_a0_1 fu l f lo len a z0 z1) :=
  (S.rix2_a0_1_k fu l f lo len a z0 z1 k).trans rfl
theorem S.rix2_a0_0_k {R : Type} (fu : Nat) (l : FL) (f : BL) (lo len : Nat) (a : Int) (z0 : Int) (k : AVal → List Blk → Option R) : contOf (C_rix2 fu l f lo len a) G73 (bodyOf Try.f83) [1, 0, 1, 0] (retK tis F83 Try.f83 (List.length ([.fam 119 (.pair (.int .i64) (.pair (.int .i64) (.pair (.int .i64) .bool))) l f, .var [.int .i64 a]] : List Blk)) k) (Ex.ret) (S.rix2_x0_0 l f lo len a (z0)) =
  (k (.int .i64 z0) ([.fam 119 (Cd.pair (Cd.int .i64) (Cd.pair (Cd.int .i64) (Cd.pair (Cd.int .i64) Cd.bool))) l f, .var [.int .i64 a]])) := by kernel_rfl
noncomputable def S.rix2_a0_0 (fu : Nat) (l : FL) (f : BL) (lo len : Nat) (a : Int) (z0 : Int) : Option (Int) :=
  some (z0)
theorem S.rix2_a0_0_v {R : Type} (fu : Nat) (l : FL) (f : BL) (lo len : Nat) (a : Int) (z0 : Int) (k : AVal → List Blk → Option R) : contOf (C_rix2 fu l f lo len a) G73 (bodyOf Try.f83) [1, 0, 1, 0] (retK tis F83 Try.f83 (List.length ([.fam 119 (.pair (.int .i64) (.pair (.int .i64) (.pair (.int .i64) .bool))) l f, .var [.int .i64 a]] : List Blk)) k) (Ex.ret) (S.rix2_x0_0 l f lo len a (z0)) = oK (S.rix2_gk l f lo len a k) (S.rix2_a0_0 fu l f lo len a z0) :=
  (S.rix2_a0_0_k fu l f lo len a z0 k).trans rfl
theorem S.rix2_k {R : Type} (fu : Nat) (l : FL) (f : BL) (lo len : Nat) (a : Int) (k : AVal → List Blk → Option R) : fnEval tis F83 fu G73 Try.f83 [.slice 1 0 lo len none, .func 84 [.ptr 1 0 0]] [.fam 119 (.pair (.int .i64) (.pair (.int .i64) (.pair (.int .i64) .bool))) l f, .var [.int .i64 a]] k =
  (loopRun (C_rix2 fu l f lo len a) G73 S.rix2_b0 fu (S.rix2_s0 l f lo len a (0)) (contOf (C_rix2 fu l f lo len a) G73 (bodyOf Try.f83) [1, 0, 1, 0] (retK tis F83 Try.f83 (List.length ([.fam 119 (.pair (.int .i64) (.pair (.int .i64) (.pair (.int .i64) .bool))) l f, .var [.int .i64 a]] : List Blk)) k))) := by kernel_rfl
noncomputable def S.rix2 (fu : Nat) (l : FL) (f : BL) (lo len : Nat) (a : Int) : Option (Int) :=
  optK (S.rix2_l0 fu l f lo len a fu (0)) (Sum.elim (fun z : Int => S.rix2_a0_0 fu l f lo len a (z)) (fun z : Int × Bool => S.rix2_a0_1 fu l f lo len a (z.1) (z.2)))
theorem S.rix2_v {R : Type} (fu : Nat) (l : FL) (f : BL) (lo len : Nat) (a : Int) (k : AVal → List Blk → Option R) : fnEval tis F83 fu G73 Try.f83 [.slice 1 0 lo len none, .func 84 [.ptr 1 0 0]] [.fam 119 (.pair (.int .i64) (.pair (.int .i64) (.pair (.int .i64) .bool))) l f, .var [.int .i64 a]] k = oK (fun v : Int => k (.int .i64 v) [.fam 119 (.pair (.int .i64) (.pair (.int .i64) (.pair (.int .i64) .bool))) l f, .var [.int .i64 a]]) (S.rix2 fu l f lo len a) :=
  (S.rix2_k fu l f lo len a k).trans (arr_lift (S.rix2_l0_v fu l f lo len a (contOf (C_rix2 fu l f lo len a) G73 (bodyOf Try.f83) [1, 0, 1, 0] (retK tis F83 Try.f83 (List.length ([.fam 119 (.pair (.int .i64) (.pair (.int .i64) (.pair (.int .i64) .bool))) l f, .var [.int .i64 a]] : List Blk)) k)) fu (0)) ((sum_lift (fun z => S.rix2_a0_0_v fu l f lo len a (z) k) (fun z => S.rix2_a0_1_v fu l f lo len a (z.1) (z.2) k))))
noncomputable def C_rix3 (fu : Nat) (a : Int) : Cfg := Cfg.of tis F83 fu (List.length ([.var [.int .i64 a]] : List Blk)) Try.f83.ntmps
noncomputable def S.rix3_b0 : Code := codeAt (bodyOf Try.f83) [1, 0, 1, 0, 0]
noncomputable def S.rix3_s0 (a : Int)  : St := ⟨[(0, .nils), (1, (.func 84 [(.ptr 0 (0) 0)])), (7, (.int .i64 (0))), (8, (.int .i64 (0)))], [(.var [(.int .i64 (a))])]⟩
noncomputable def S.rix3_x0_0 (a : Int)  : St := ⟨[(0, .nils), (1, (.func 84 [(.ptr 0 (0) 0)])), (7, (.int .i64 (0))), (8, (.int .i64 (0))), (9, (.bool (false)))], [(.var [(.int .i64 (a))])]⟩
noncomputable def S.rix3_g0 {R : Type} (a : Int) (K : Ex → St → Option R) : ((Unit)) → Option R := (fun z : Unit => K (Ex.exit 0) (S.rix3_x0_0 a))
noncomputable def S.rix3_gk {R : Type} (a : Int) (k : AVal → List Blk → Option R) : (Int) → Option R := (fun v : Int => k (.int .i64 v) [.var [.int .i64 a]])
theorem S.rix3_l0_k {R : Type} (fu : Nat) (a : Int) (n : Nat) (K : Ex → St → Option R)  : loopRun (C_rix3 fu a) G73 S.rix3_b0 (n + 1) (S.rix3_s0 a) K =
  (K (Ex.exit 0) (S.rix3_x0_0 a)) := by kernel_rfl
noncomputable def S.rix3_l0 (fu : Nat) (a : Int) : Nat → Option ((Unit))
  | 0 => none
  | n + 1 =>
    some ()
theorem S.rix3_l0_v {R : Type} (fu : Nat) (a : Int) (K : Ex → St → Option R) : ∀ (n : Nat) , loopRun (C_rix3 fu a) G73 S.rix3_b0 n (S.rix3_s0 a) K = oK (β := (Unit)) (S.rix3_g0 a K) (S.rix3_l0 fu a n)
  | 0 => rfl
  | n + 1 => (S.rix3_l0_k fu a n K).trans rfl
theorem S.rix3_a0_0_k {R : Type} (fu : Nat) (a : Int)  (k : AVal → List Blk → Option R) : contOf (C_rix3 fu a) G73 (bodyOf Try.f83) [1, 0, 1, 0] (retK tis F83 Try.f83 (List.length ([.var [.int .i64 a]] : List Blk)) k) (Ex.exit 0) (S.rix3_x0_0 a) =
  (k (.int .i64 (-1)) ([.var [.int .i64 a]])) := by kernel_rfl
noncomputable def S.rix3_a0_0 (fu : Nat) (a : Int)  : Option (Int) :=
  some (-1)
theorem S.rix3_a0_0_v {R : Type} (fu : Nat) (a : Int)  (k : AVal → List Blk → Option R) : contOf (C_rix3 fu a) G73 (bodyOf Try.f83) [1, 0, 1, 0] (retK tis F83 Try.f83 (List.length ([.var [.int .i64 a]] : List Blk)) k) (Ex.exit 0) (S.rix3_x0_0 a) = oK (S.rix3_gk a k) (S.rix3_a0_0 fu a) :=
  (S.rix3_a0_0_k fu a k).trans rfl
theorem S.rix3_k {R : Type} (fu : Nat) (a : Int) (k : AVal → List Blk → Option R) : fnEval tis F83 fu G73 Try.f83 [.nils, .func 84 [.ptr 0 0 0]] [.var [.int .i64 a]] k =
  (loopRun (C_rix3 fu a) G73 S.rix3_b0 fu (S.rix3_s0 a) (contOf (C_rix3 fu a) G73 (bodyOf Try.f83) [1, 0, 1, 0] (retK tis F83 Try.f83 (List.length ([.var [.int .i64 a]] : List Blk)) k))) := by kernel_rfl
noncomputable def S.rix3 (fu : Nat) (a : Int) : Option (Int) :=
  optK (S.rix3_l0 fu a fu) (fun z : Unit => S.rix3_a0_0 fu a)
theorem S.rix3_v {R : Type} (fu : Nat) (a : Int) (k : AVal → List Blk → Option R) : fnEval tis F83 fu G73 Try.f83 [.nils, .func 84 [.ptr 0 0 0]] [.var [.int .i64 a]] k = oK (fun v : Int => k (.int .i64 v) [.var [.int .i64 a]]) (S.rix3 fu a) :=
  (S.rix3_k fu a k).trans (arr_lift (S.rix3_l0_v fu a (contOf (C_rix3 fu a) G73 (bodyOf Try.f83) [1, 0, 1, 0] (retK tis F83 Try.f83 (List.length ([.var [.int .i64 a]] : List Blk)) k)) fu) ((fun z => S.rix3_a0_0_v fu a k)))
noncomputable def C_dix (fu : Nat) (l : WL) (lo len : Nat) (t : Int) : Cfg := Cfg.of tis F83 fu (List.length ([.rows (.box 106 (.pair (.int .i64) (.int .i64))) l false, .var [.int .i64 t]] : List Blk)) Try.f83.ntmps
noncomputable def S.dix_b0 : Code := codeAt (bodyOf Try.f83) [1, 0, 1, 0, 0]
noncomputable def S.dix_s0 (l : WL) (lo len : Nat) (t : Int) (y0 : Int) : St := ⟨[(0, (.slice 1 0 (lo) (len) none)), (1, (.func 73 [(.ptr 1 (0) 0)])), (7, (.int .i64 (((len : Nat) : Int)))), (8, (.int .i64 (y0)))], [(.rows (Cd.box 106 (Cd.pair (Cd.int .i64) (Cd.int .i64))) (l) false), (.var [(.int .i64 (t))])]⟩
noncomputable def S.dix_x0_0 (l : WL) (lo len : Nat) (t : Int) (z0 : Int) : St := ⟨[(4, (.int .i64 (z0)))], [(.rows (Cd.box 106 (Cd.pair (Cd.int .i64) (Cd.int .i64))) (l) false), (.var [(.int .i64 (t))])]⟩
noncomputable def S.dix_x0_1 (l : WL) (lo len : Nat) (t : Int) (z0 : Int) (z1 : Bool) : St := ⟨[(0, (.slice 1 0 (lo) (len) none)), (1, (.func 73 [(.ptr 1 (0) 0)])), (7, (.int .i64 (((len : Nat) : Int)))), (8, (.int .i64 (z0))), (9, (.bool (z1)))], [(.rows (Cd.box 106 (Cd.pair (Cd.int .i64) (Cd.int .i64))) (l) false), (.var [(.int .i64 (t))])]⟩
noncomputable def S.dix_g0 {R : Type} (l : WL) (lo len : Nat) (t : Int) (K : Ex → St → Option R) : ((Int) ⊕ (Int × Bool)) → Option R := (Sum.elim (fun z : Int => K (Ex.ret) (S.dix_x0_0 l lo len t (z))) (fun z : Int × Bool => K (Ex.exit 0) (S.dix_x0_1 l lo len t (z.1) (z.2))))
noncomputable def S.dix_gk {R : Type} (l : WL) (lo len : Nat) (t : Int) (k : AVal → List Blk → Option R) : (Int) → Option R := (fun v : Int => k (.int .i64 v) [.rows (.box 106 (.pair (.int .i64) (.int .i64))) l false, .var [.int .i64 t]])
theorem S.dix_l0_k {R : Type} (fu : Nat) (l : WL) (lo len : Nat) (t : Int) (n : Nat) (K : Ex → St → Option R) (y0 : Int) : loopRun (C_dix fu l lo len t) G73 S.dix_b0 (n + 1) (S.dix_s0 l lo len t (y0)) K =
  (bif decide (y0 < ((len : Nat) : Int)) then
   bif inB y0 len then
   (optK (l[Int.toNat y0 + lo]?) fun o4 =>
   (optC (o4) (K (Ex.ret) (S.dix_x0_0 l lo len t (y0))) fun o5 =>
   bif S.dold o5.1 o5.2 t then
   K (Ex.ret) (S.dix_x0_0 l lo len t (y0))
 else
   loopRun (C_dix fu l lo len t) G73 S.dix_b0 n (S.dix_s0 l lo len t (Go.IntKind.wrap .i64 (y0 + 1))) K))
 else
   none
 else
   K (Ex.exit 0) (S.dix_x0_1 l lo len t (y0) (decide (y0 < ((len : Nat) : Int))))) := by kernel_rfl
noncomputable def S.dix_l0 (fu : Nat) (l : WL) (lo len : Nat) (t : Int) : Nat → (Int) → Option ((Int) ⊕ (Int × Bool))
  | 0, _ => none
  | n + 1, y0 =>
    bif decide (y0 < ((len : Nat) : Int)) then
   bif inB y0 len then
   (optK (l[Int.toNat y0 + lo]?) fun o4 =>
   (optC (o4) (some (.inl (y0))) fun o5 =>
   bif S.dold o5.1 o5.2 t then
   some (.inl (y0))
 else
   (S.dix_l0 fu l lo len t n) (Go.IntKind.wrap .i64 (y0 + 1))))
 else
   none
 else
   some (.inr (y0, decide (y0 < ((len : Nat) : Int))))
theorem S.dix_l0_v {R : Type} (fu : Nat) (l : WL) (lo len : Nat) (t : Int) (K : Ex → St → Option R) : ∀ (n : Nat) (y0 : Int), loopRun (C_dix fu l lo len t) G73 S.dix_b0 n (S.dix_s0 l lo len t (y0)) K = oK (β := (Int) ⊕ (Int × Bool)) (S.dix_g0 l lo len t K) (S.dix_l0 fu l lo len t n y0)
  | 0, _ => rfl
  | n + 1, y0 => (S.dix_l0_k fu l lo len t n K y0).trans (bif_lift (f := (oK (S.dix_g0 l lo len t K))) (bif_lift (f := (oK (S.dix_g0 l lo len t K))) (opt_lift fun o4 => (optC_lift (f := (oK (S.dix_g0 l lo len t K))) rfl fun o5 => (bif_lift (f := (oK (S.dix_g0 l lo len t K))) rfl (S.dix_l0_v fu l lo len t K n (Go.IntKind.wrap .i64 (y0 + 1)))))) rfl) rfl)
theorem S.dix_a0_1_k {R : Type} (fu : Nat) (l : WL) (lo len : Nat) (t : Int) (z0 : Int) (z1 : Bool) (k : AVal → List Blk → Option R) : contOf (C_dix fu l lo len t) G73 (bodyOf Try.f83) [1, 0, 1, 0] (retK tis F83 Try.f83 (List.length ([.rows (.box 106 (.pair (.int .i64) (.int .i64))) l false, .var [.int .i64 t]] : List Blk)) k) (Ex.exit 0) (S.dix_x0_1 l lo len t (z0) (z1)) =
  (k (.int .i64 (-1)) ([.rows (Cd.box 106 (Cd.pair (Cd.int .i64) (Cd.int .i64))) l false, .var [.int .i64 t]])) := by kernel_rfl
noncomputable def S.dix_a0_1 (fu : Nat) (l : WL) (lo len : Nat) (t : Int) (z0 : Int) (z1 : Bool) : Option (Int) :=
  some (-1)
theorem S.dix_a0_1_v {R : Type} (fu : Nat) (l : WL) (lo len : Nat) (t : Int) (z0 : Int) (z1 : Bool) (k : AVal → List Blk → Option R) : contOf (C_dix fu l lo len t) G73 (bodyOf Try.f83) [1, 0, 1, 0] (retK tis F83 Try.f83 (List.length ([.rows (.box 106 (.pair (.int .i64) (.int .i64))) l false, .var [.int .i64 t]] : List Blk)) k) (Ex.exit 0) (S.dix_x0_1 l lo len t (z0) (z1)) = oK (S.dix_gk l lo len t k) (S.dix_a0_1 fu l lo len t z0 z1) :=
  (S.dix_a0_1_k fu l lo len t z0 z1 k).trans rfl
theorem S.dix_a0_0_k {R : Type} (fu : Nat) (l : WL) (lo len : Nat) (t : Int) (z0 : Int) (k : AVal → List Blk → Option R) : contOf (C_dix fu l lo len t) G73 (bodyOf Try.f83) [1, 0, 1, 0] (retK tis F83 Try.f83 (List.length ([.rows (.box 106 (.pair (.int .i64) (.int .i64))) l false, .var [.int .i64 t]] : List Blk)) k) (Ex.ret) (S.dix_x0_0 l lo len t (z0)) =
  (k (.int .i64 z0) ([.rows (Cd.box 106 (Cd.pair (Cd.int .i64) (Cd.int .i64))) l false, .var [.int .i64 t]])) := by kernel_rfl
noncomputable def S.dix_a0_0 (fu : Nat) (l : WL) (lo len : Nat) (t : Int) (z0 : Int) : Option (Int) :=
  some (z0)
theorem S.dix_a0_0_v {R : Type} (fu : Nat) (l : WL) (lo len : Nat) (t : Int) (z0 : Int) (k : AVal → List Blk → Option R) : contOf (C_dix fu l lo len t) G73 (bodyOf Try.f83) [1, 0, 1, 0] (retK tis F83 Try.f83 (List.length ([.rows (.box 106 (.pair (.int .i64) (.int .i64))) l false, .var [.int .i64 t]] : List Blk)) k) (Ex.ret) (S.dix_x0_0 l lo len t (z0)) = oK (S.dix_gk l lo len t k) (S.dix_a0_0 fu l lo len t z0) :=
  (S.dix_a0_0_k fu l lo len t z0 k).trans rfl
theorem S.dix_k {R : Type} (fu : Nat) (l : WL) (lo len : Nat) (t : Int) (k : AVal → List Blk → Option R) : fnEval tis F83 fu G73 Try.f83 [.slice 1 0 lo len none, .func 73 [.ptr 1 0 0]] [.rows (.box 106 (.pair (.int .i64) (.int .i64))) l false, .var [.int .i64 t]] k =
  (loopRun (C_dix fu l lo len t) G73 S.dix_b0 fu (S.dix_s0 l lo len t (0)) (contOf (C_dix fu l lo len t) G73 (bodyOf Try.f83) [1, 0, 1, 0] (retK tis F83 Try.f83 (List.length ([.rows (.box 106 (.pair (.int .i64) (.int .i64))) l false, .var [.int .i64 t]] : List Blk)) k))) := by kernel_rfl
noncomputable def S.dix (fu : Nat) (l : WL) (lo len : Nat) (t : Int) : Option (Int) :=
  optK (S.dix_l0 fu l lo len t fu (0)) (Sum.elim (fun z : Int => S.dix_a0_0 fu l lo len t (z)) (fun z : Int × Bool => S.dix_a0_1 fu l lo len t (z.1) (z.2)))
theorem S.dix_v {R : Type} (fu : Nat) (l : WL) (lo len : Nat) (t : Int) (k : AVal → List Blk → Option R) : fnEval tis F83 fu G73 Try.f83 [.slice 1 0 lo len none, .func 73 [.ptr 1 0 0]] [.rows (.box 106 (.pair (.int .i64) (.int .i64))) l false, .var [.int .i64 t]] k = oK (fun v : Int => k (.int .i64 v) [.rows (.box 106 (.pair (.int .i64) (.int .i64))) l false, .var [.int .i64 t]]) (S.dix fu l lo len t) :=
  (S.dix_k fu l lo len t k).trans (arr_lift (S.dix_l0_v fu l lo len t (contOf (C_dix fu l lo len t) G73 (bodyOf Try.f83) [1, 0, 1, 0] (retK tis F83 Try.f83 (List.length ([.rows (.box 106 (.pair (.int .i64) (.int .i64))) l false, .var [.int .i64 t]] : List Blk)) k)) fu (0)) ((sum_lift (fun z => S.dix_a0_0_v fu l lo len t (z) k) (fun z => S.dix_a0_1_v fu l lo len t (z.1) (z.2) k))))
noncomputable def C_dix1 (fu : Nat) (t : Int) : Cfg := Cfg.of tis F83 fu (List.length ([.var [.int .i64 t]] : List Blk)) Try.f83.ntmps
noncomputable def S.dix1_b0 : Code := codeAt (bodyOf Try.f83) [1, 0, 1, 0, 0]
noncomputable def S.dix1_s0 (t : Int)  : St := ⟨[(0, .nils), (1, (.func 73 [(.ptr 0 (0) 0)])), (7, (.int .i64 (0))), (8, (.int .i64 (0)))], [(.var [(.int .i64 (t))])]⟩
noncomputable def S.dix1_x0_0 (t : Int)  : St := ⟨[(0, .nils), (1, (.func 73 [(.ptr 0 (0) 0)])), (7, (.int .i64 (0))), (8, (.int .i64 (0))), (9, (.bool (false)))], [(.var [(.int .i64 (t))])]⟩
noncomputable def S.dix1_g0 {R : Type} (t : Int) (K : Ex → St → Option R) : ((Unit)) → Option R := (fun z : Unit => K (Ex.exit 0) (S.dix1_x0_0 t))
noncomputable def S.dix1_gk {R : Type} (t : Int) (k : AVal → List Blk → Option R) : (Int) → Option R := (fun v : Int => k (.int .i64 v) [.var [.int .i64 t]])
theorem S.dix1_l0_k {R : Type} (fu : Nat) (t : Int) (n : Nat) (K : Ex → St → Option R)  : loopRun (C_dix1 fu t) G73 S.dix1_b0 (n + 1) (S.dix1_s0 t) K =
  (K (Ex.exit 0) (S.dix1_x0_0 t)) := by kernel_rfl
noncomputable def S.dix1_l0 (fu : Nat) (t : Int) : Nat → Option ((Unit))
  | 0 => none
  | n + 1 =>
    some ()
theorem S.dix1_l0_v {R : Type} (fu : Nat) (t : Int) (K : Ex → St → Option R) : ∀ (n : Nat) , loopRun (C_dix1 fu t) G73 S.dix1_b0 n (S.dix1_s0 t) K = oK (β := (Unit)) (S.dix1_g0 t K) (S.dix1_l0 fu t n)
  | 0 => rfl
  | n + 1 => (S.dix1_l0_k fu t n K).trans rfl
theorem S.dix1_a0_0_k {R : Type} (fu : Nat) (t : Int)  (k : AVal → List Blk → Option R) : contOf (C_dix1 fu t) G73 (bodyOf Try.f83) [1, 0, 1, 0] (retK tis F83 Try.f83 (List.length ([.var [.int .i64 t]] : List Blk)) k) (Ex.exit 0) (S.dix1_x0_0 t) =
  (k (.int .i64 (-1)) ([.var [.int .i64 t]])) := by kernel_rfl
noncomputable def S.dix1_a0_0 (fu : Nat) (t : Int)  : Option (Int) :=
  some (-1)
theorem S.dix1_a0_0_v {R : Type} (fu : Nat) (t : Int)  (k : AVal → List Blk → Option R) : contOf (C_dix1 fu t) G73 (bodyOf Try.f83) [1, 0, 1, 0] (retK tis F83 Try.f83 (List.length ([.var [.int .i64 t]] : List Blk)) k) (Ex.exit 0) (S.dix1_x0_0 t) = oK (S.dix1_gk t k) (S.dix1_a0_0 fu t) :=
  (S.dix1_a0_0_k fu t k).trans rfl
theorem S.dix1_k {R : Type} (fu : Nat) (t : Int) (k : AVal → List Blk → Option R) : fnEval tis F83 fu G73 Try.f83 [.nils, .func 73 [.ptr 0 0 0]] [.var [.int .i64 t]] k =
  (loopRun (C_dix1 fu t) G73 S.dix1_b0 fu (S.dix1_s0 t) (contOf (C_dix1 fu t) G73 (bodyOf Try.f83) [1, 0, 1, 0] (retK tis F83 Try.f83 (List.length ([.var [.int .i64 t]] : List Blk)) k))) := by kernel_rfl
noncomputable def S.dix1 (fu : Nat) (t : Int) : Option (Int) :=
  optK (S.dix1_l0 fu t fu) (fun z : Unit => S.dix1_a0_0 fu t)
theorem S.dix1_v {R : Type} (fu : Nat) (t : Int) (k : AVal → List Blk → Option R) : fnEval tis F83 fu G73 Try.f83 [.nils, .func 73 [.ptr 0 0 0]] [.var [.int .i64 t]] k = oK (fun v : Int => k (.int .i64 v) [.var [.int .i64 t]]) (S.dix1 fu t) :=
  (S.dix1_k fu t k).trans (arr_lift (S.dix1_l0_v fu t (contOf (C_dix1 fu t) G73 (bodyOf Try.f83) [1, 0, 1, 0] (retK tis F83 Try.f83 (List.length ([.var [.int .i64 t]] : List Blk)) k)) fu) ((fun z => S.dix1_a0_0_v fu t k)))
noncomputable def H83 : Hnd := fun R args σ k => match args, σ with
  | [.slice 1 0 lo len none, .func 93 [.ptr 1 0 0]], [.fam 119 (.pair (.int .i64) (.pair (.int .i64) (.pair (.int .i64) .bool))) l f, .var [.ptr 2 0 0], .var [.slice 1 0 lo2 len2 none, .int .i64 rw, .int .i64 rg, .int .i64 rn, .int .i64 nw, .bool ov]] => oK (fun v : Int => k (.int .i64 v) []) (S.rix 100000 l f lo len lo2 len2 rw rg rn nw ov)
  | [.nils, .func 93 [.ptr 0 0 0]], [.var [.ptr 1 0 0], .var [.nils, .int .i64 rw, .int .i64 rg, .int .i64 rn, .int .i64 nw, .bool ov]] => oK (fun v : Int => k (.int .i64 v) []) (S.rix1 100000 rw rg rn nw ov)
  | [.slice 1 0 lo len none, .func 84 [.ptr 1 0 0]], [.fam 119 (.pair (.int .i64) (.pair (.int .i64) (.pair (.int .i64) .bool))) l f, .var [.int .i64 a]] => oK (fun v : Int => k (.int .i64 v) []) (S.rix2 100000 l f lo len a)
  | [.nils, .func 84 [.ptr 0 0 0]], [.var [.int .i64 a]] => oK (fun v : Int => k (.int .i64 v) []) (S.rix3 100000 a)
  | [.slice 1 0 lo len none, .func 73 [.ptr 1 0 0]], [.rows (.box 106 (.pair (.int .i64) (.int .i64))) l false, .var [.int .i64 t]] => oK (fun v : Int => k (.int .i64 v) []) (S.dix 100000 l lo len t)
  | [.nils, .func 73 [.ptr 0 0 0]], [.var [.int .i64 t]] => oK (fun v : Int => k (.int .i64 v) []) (S.dix1 100000 t)
  | _, _ => none
theorem H83_ok : HndOk Try.prog 83 H83 := hnd_ok_pure tis tisOk mixOk G73_ok F83 Try.func83 rfl (by
  intro R args σ k r h
  unfold H83 at h
  split at h
  · rename_i lo len l f lo2 len2 rw rg rn nw ov; exact ⟨100000, (S.rix_v 100000 l f lo len lo2 len2 rw rg rn nw ov _).trans ((congrArg (fun g9 => oK g9 (S.rix 100000 l f lo len lo2 len2 rw rg rn nw ov)) (funext fun v => if_pos rfl)).trans h)⟩
  · rename_i rw rg rn nw ov; exact ⟨100000, (S.rix1_v 100000 rw rg rn nw ov _).trans ((congrArg (fun g9 => oK g9 (S.rix1 100000 rw rg rn nw ov)) (funext fun v => if_pos rfl)).trans h)⟩
  · rename_i lo len l f a; exact ⟨100000, (S.rix2_v 100000 l f lo len a _).trans ((congrArg (fun g9 => oK g9 (S.rix2 100000 l f lo len a)) (funext fun v => if_pos rfl)).trans h)⟩
  · rename_i a; exact ⟨100000, (S.rix3_v 100000 a _).trans ((congrArg (fun g9 => oK g9 (S.rix3 100000 a)) (funext fun v => if_pos rfl)).trans h)⟩
  · rename_i lo len l t; exact ⟨100000, (S.dix_v 100000 l lo len t _).trans ((congrArg (fun g9 => oK g9 (S.dix 100000 l lo len t)) (funext fun v => if_pos rfl)).trans h)⟩
  · rename_i t; exact ⟨100000, (S.dix1_v 100000 t _).trans ((congrArg (fun g9 => oK g9 (S.dix1 100000 t)) (funext fun v => if_pos rfl)).trans h)⟩
  · cases h)
noncomputable def G83 : Env := Env.add 83 H83 G73
theorem G83_ok : EnvOk Try.prog G83 := envAdd_ok H83_ok G73_ok

/-! slices.DeleteFunc[[]any,any] -/
def F72 : FCfg := ⟨keepAt [(0, [0, 1]), (1, [0, 1, 5]), (2, [0, 1, 5, 12]), (3, [4]), (4, [0, 1, 5, 6]), (5, [0, 1, 5, 6, 19]), (6, [0, 1, 5, 6]), (7, [0, 1, 5, 6, 7]), (8, [0, 1, 5, 6, 7, 29]), (9, [0, 1, 5, 6]), (10, [0, 1, 5, 6]), (11, [0, 5]), (12, [4])], loopAt [(5, [0, 1, 5, 6], [])], []⟩
noncomputable def C_rdel (fu : Nat) (l : FL) (f : BL) (lo len lo2 len2 : Nat) (rw rg rn nw : Int) (ov : Bool) : Cfg := Cfg.of tis F72 fu (List.length ([.fam 119 (.pair (.int .i64) (.pair (.int .i64) (.pair (.int .i64) .bool))) l f, .var [.ptr 2 0 0], .var [.slice 1 0 lo2 len2 none, .int .i64 rw, .int .i64 rg, .int .i64 rn, .int .i64 nw, .bool ov]] : List Blk)) Try.f72.ntmps
noncomputable def S.rdel_b0 : Code := codeAt (bodyOf Try.f72) [1, 1, 1, 0, 1, 0, 0]
noncomputable def S.rdel_s0 (l : FL) (f : BL) (lo len lo2 len2 : Nat) (rw rg rn nw : Int) (ov : Bool) (y0 : Int) (y1 : Int) (y2 : List (Option Nat)) : St := ⟨[(0, (.slice 1 0 (lo) (len) none)), (1, (.func 93 [(.ptr 1 (0) 0)])), (5, (.int .i64 (y0))), (6, (.int .i64 (y1)))], [(.fam 119 (Cd.pair (Cd.int .i64) (Cd.pair (Cd.int .i64) (Cd.pair (Cd.int .i64) Cd.bool))) (y2) (f)), (.var [(.ptr 2 (0) 0)]), (.var [(.slice 1 0 (lo2) (len2) none), (.int .i64 (rw)), (.int .i64 (rg)), (.int .i64 (rn)), (.int .i64 (nw)), (.bool (ov))])]⟩
noncomputable def S.rdel_x0_0 (l : FL) (f : BL) (lo len lo2 len2 : Nat) (rw rg rn nw : Int) (ov : Bool) (z0 : Int) (z1 : Int) (z2 : Bool) (z3 : List (Option Nat)) : St := ⟨[(0, (.slice 1 0 (lo) (len) none)), (1, (.func 93 [(.ptr 1 (0) 0)])), (5, (.int .i64 (z0))), (6, (.int .i64 (z1))), (19, (.bool (z2)))], [(.fam 119 (Cd.pair (Cd.int .i64) (Cd.pair (Cd.int .i64) (Cd.pair (Cd.int .i64) Cd.bool))) (z3) (f)), (.var [(.ptr 2 (0) 0)]), (.var [(.slice 1 0 (lo2) (len2) none), (.int .i64 (rw)), (.int .i64 (rg)), (.int .i64 (rn)), (.int .i64 (nw)), (.bool (ov))])]⟩
noncomputable def S.rdel_g0 {R : Type} (l : FL) (f : BL) (lo len lo2 len2 : Nat) (rw rg rn nw : Int) (ov : Bool) (K : Ex → St → Option R) : ((Int × Int × Bool × List (Option Nat))) → Option R := (fun z : Int × Int × Bool × List (Option Nat) => K (Ex.exit 0) (S.rdel_x0_0 l f lo len lo2 len2 rw rg rn nw ov (z.1) (z.2.1) (z.2.2.1) (z.2.2.2)))
noncomputable def S.rdel_gk {R : Type} (l : FL) (f : BL) (lo len lo2 len2 : Nat) (rw rg rn nw : Int) (ov : Bool) (k : AVal → List Blk → Option R) : (Nat × Nat × List (Option Nat) × BL × Nat × Nat × Int × Int × Int × Int × Bool) → Option R := (fun v : Nat × Nat × List (Option Nat) × BL × Nat × Nat × Int × Int × Int × Int × Bool => k (.slice 1 0 v.1 v.2.1 none) [(.fam 119 (Cd.pair (Cd.int .i64) (Cd.pair (Cd.int .i64) (Cd.pair (Cd.int .i64) Cd.bool))) v.2.2.1 v.2.2.2.1), (.var [(.ptr 2 (0) 0)]), (.var [(.slice 1 0 v.2.2.2.2.1 v.2.2.2.2.2.1 none), (.int .i64 v.2.2.2.2.2.2.1), (.int .i64 v.2.2.2.2.2.2.2.1), (.int .i64 v.2.2.2.2.2.2.2.2.1), (.int .i64 v.2.2.2.2.2.2.2.2.2.1), (.bool v.2.2.2.2.2.2.2.2.2.2)])])
theorem S.rdel_l0_k {R : Type} (fu : Nat) (l : FL) (f : BL) (lo len lo2 len2 : Nat) (rw rg rn nw : Int) (ov : Bool) (n : Nat) (K : Ex → St → Option R) (y0 : Int) (y1 : Int) (y2 : List (Option Nat)) : loopRun (C_rdel fu l f lo len lo2 len2 rw rg rn nw ov) G83 S.rdel_b0 (n + 1) (S.rdel_s0 l f lo len lo2 len2 rw rg rn nw ov (y0) (y1) (y2)) K =
  (bif decide (y1 < ((len : Nat) : Int)) then
   bif inB y1 len then
   (optK (y2[Int.toNat y1 + lo]?) fun o4 =>
   (optK (o4) fun o5 =>
   (optK (S.rgone y2 f o5 lo2 len2 rw rg rn nw ov) fun o6 =>
   bif !o6 then
   bif inB y0 len then
   bif true && Nat.blt (Int.toNat y0 + lo) (List.length y2) then
   loopRun (C_rdel fu l f lo len lo2 len2 rw rg rn nw ov) G83 S.rdel_b0 n (S.rdel_s0 l f lo len lo2 len2 rw rg rn nw ov (Go.IntKind.wrap .i64 (y0 + 1)) (Go.IntKind.wrap .i64 (y1 + 1)) (List.set y2 (Int.toNat y0 + lo) (Option.some o5))) K
 else
   none
 else
   none
 else
   loopRun (C_rdel fu l f lo len lo2 len2 rw rg rn nw ov) G83 S.rdel_b0 n (S.rdel_s0 l f lo len lo2 len2 rw rg rn nw ov (y0) (Go.IntKind.wrap .i64 (y1 + 1)) (y2)) K)))
 else
   none
 else
   K (Ex.exit 0) (S.rdel_x0_0 l f lo len lo2 len2 rw rg rn nw ov (y0) (y1) (decide (y1 < ((len : Nat) : Int))) (y2))) := by kernel_rfl
noncomputable def S.rdel_l0 (fu : Nat) (l : FL) (f : BL) (lo len lo2 len2 : Nat) (rw rg rn nw : Int) (ov : Bool) : Nat → (Int) → (Int) → (List (Option Nat)) → Option ((Int × Int × Bool × List (Option Nat)))
  | 0, _, _, _ => none
  | n + 1, y0, y1, y2 =>
    bif decide (y1 < ((len : Nat) : Int)) then
   bif inB y1 len then
   (optK (y2[Int.toNat y1 + lo]?) fun o4 =>
   (optK (o4) fun o5 =>
   (optK (S.rgone y2 f o5 lo2 len2 rw rg rn nw ov) fun o6 =>
   bif !o6 then
   bif inB y0 len then
   bif true && Nat.blt (Int.toNat y0 + lo) (List.length y2) then
   (S.rdel_l0 fu l f lo len lo2 len2 rw rg rn nw ov n) (Go.IntKind.wrap .i64 (y0 + 1)) (Go.IntKind.wrap .i64 (y1 + 1)) (List.set y2 (Int.toNat y0 + lo) (Option.some o5))
 else
   none
 else
   none
 else
   (S.rdel_l0 fu l f lo len lo2 len2 rw rg rn nw ov n) (y0) (Go.IntKind.wrap .i64 (y1 + 1)) (y2))))
 else
   none
 else
   some (y0, y1, decide (y1 < ((len : Nat) : Int)), y2)
theorem S.rdel_l0_v {R : Type} (fu : Nat) (l : FL) (f : BL) (lo len lo2 len2 : Nat) (rw rg rn nw : Int) (ov : Bool) (K : Ex → St → Option R) : ∀ (n : Nat) (y0 : Int) (y1 : Int) (y2 : List (Option Nat)), loopRun (C_rdel fu l f lo len lo2 len2 rw rg rn nw ov) G83 S.rdel_b0 n (S.rdel_s0 l f lo len lo2 len2 rw rg rn nw ov (y0) (y1) (y2)) K = oK (β := (Int × Int × Bool × List (Option Nat))) (S.rdel_g0 l f lo len lo2 len2 rw rg rn nw ov K) (S.rdel_l0 fu l f lo len lo2 len2 rw rg rn nw ov n y0 y1 y2)
  | 0, _, _, _ => rfl
  | n + 1, y0, y1, y2 => (S.rdel_l0_k fu l f lo len lo2 len2 rw rg rn nw ov n K y0 y1 y2).trans (bif_lift (f := (oK (S.rdel_g0 l f lo len lo2 len2 rw rg rn nw ov K))) (bif_lift (f := (oK (S.rdel_g0 l f lo len lo2 len2 rw rg rn nw ov K))) (opt_lift fun o4 => (opt_lift fun o5 => (opt_lift fun o6 => (bif_lift (f := (oK (S.rdel_g0 l f lo len lo2 len2 rw rg rn nw ov K))) (bif_lift (f := (oK (S.rdel_g0 l f lo len lo2 len2 rw rg rn nw ov K))) (bif_lift (f := (oK (S.rdel_g0 l f lo len lo2 len2 rw rg rn nw ov K))) (S.rdel_l0_v fu l f lo len lo2 len2 rw rg rn nw ov K n (Go.IntKind.wrap .i64 (y0 + 1)) (Go.IntKind.wrap .i64 (y1 + 1)) (List.set y2 (Int.toNat y0 + lo) (Option.some o5))) rfl) rfl) (S.rdel_l0_v fu l f lo len lo2 len2 rw rg rn nw ov K n (y0) (Go.IntKind.wrap .i64 (y1 + 1)) (y2)))))) rfl) rfl)
theorem S.rdel_a0_0_k {R : Type} (fu : Nat) (l : FL) (f : BL) (lo len lo2 len2 : Nat) (rw rg rn nw : Int) (ov : Bool) (z0 : Int) (z1 : Int) (z2 : Bool) (z3 : List (Option Nat)) (k : AVal → List Blk → Option R) : contOf (C_rdel fu l f lo len lo2 len2 rw rg rn nw ov) G83 (bodyOf Try.f72) [1, 1, 1, 0, 1, 0] (retK tis F72 Try.f72 (List.length ([.fam 119 (.pair (.int .i64) (.pair (.int .i64) (.pair (.int .i64) .bool))) l f, .var [.ptr 2 0 0], .var [.slice 1 0 lo2 len2 none, .int .i64 rw, .int .i64 rg, .int .i64 rn, .int .i64 nw, .bool ov]] : List Blk)) k) (Ex.exit 0) (S.rdel_x0_0 l f lo len lo2 len2 rw rg rn nw ov (z0) (z1) (z2) (z3)) =
  (bif decide (0 ≤ z0 ∧ z0 ≤ ((len : Nat) : Int)) then
   bif Nat.ble (Int.toNat z0 + lo + (len - Int.toNat z0)) (List.length z3) then
   bif decide (0 ≤ z0 ∧ z0 ≤ ((len : Nat) : Int)) then
   k (.slice 1 0 lo (Int.toNat z0) Option.none) ([.fam 119 (Cd.pair (Cd.int .i64) (Cd.pair (Cd.int .i64) (Cd.pair (Cd.int .i64) Cd.bool))) (List.take (Int.toNat z0 + lo) z3 ++ fillRows Option.none (len - Int.toNat z0) (List.drop (Int.toNat z0 + lo) z3)) f, .var [.ptr 2 0 0], .var [.slice 1 0 lo2 len2 Option.none, .int .i64 rw, .int .i64 rg, .int .i64 rn, .int .i64 nw, .bool ov]])
 else
   none
 else
   none
 else
   none) := by kernel_rfl
noncomputable def S.rdel_a0_0 (fu : Nat) (l : FL) (f : BL) (lo len lo2 len2 : Nat) (rw rg rn nw : Int) (ov : Bool) (z0 : Int) (z1 : Int) (z2 : Bool) (z3 : List (Option Nat)) : Option (Nat × Nat × List (Option Nat) × BL × Nat × Nat × Int × Int × Int × Int × Bool) :=
  bif decide (0 ≤ z0 ∧ z0 ≤ ((len : Nat) : Int)) then
   bif Nat.ble (Int.toNat z0 + lo + (len - Int.toNat z0)) (List.length z3) then
   bif decide (0 ≤ z0 ∧ z0 ≤ ((len : Nat) : Int)) then
   some (lo, Int.toNat z0, List.take (Int.toNat z0 + lo) z3 ++ fillRows Option.none (len - Int.toNat z0) (List.drop (Int.toNat z0 + lo) z3), f, lo2, len2, rw, rg, rn, nw, ov)
 else
   none
 else
   none
 else
   none
theorem S.rdel_a0_0_v {R : Type} (fu : Nat) (l : FL) (f : BL) (lo len lo2 len2 : Nat) (rw rg rn nw : Int) (ov : Bool) (z0 : Int) (z1 : Int) (z2 : Bool) (z3 : List (Option Nat)) (k : AVal → List Blk → Option R) : contOf (C_rdel fu l f lo len lo2 len2 rw rg rn nw ov) G83 (bodyOf Try.f72) [1, 1, 1, 0, 1, 0] (retK tis F72 Try.f72 (List.length ([.fam 119 (.pair (.int .i64) (.pair (.int .i64) (.pair (.int .i64) .bool))) l f, .var [.ptr 2 0 0], .var [.slice 1 0 lo2 len2 none, .int .i64 rw, .int .i64 rg, .int .i64 rn, .int .i64 nw, .bool ov]] : List Blk)) k) (Ex.exit 0) (S.rdel_x0_0 l f lo len lo2 len2 rw rg rn nw ov (z0) (z1) (z2) (z3)) = oK (S.rdel_gk l f lo len lo2 len2 rw rg rn nw ov k) (S.rdel_a0_0 fu l f lo len lo2 len2 rw rg rn nw ov z0 z1 z2 z3) :=
  (S.rdel_a0_0_k fu l f lo len lo2 len2 rw rg rn nw ov z0 z1 z2 z3 k).trans (bif_lift (f := (oK (S.rdel_gk l f lo len lo2 len2 rw rg rn nw ov k))) (bif_lift (f := (oK (S.rdel_gk l f lo len lo2 len2 rw rg rn nw ov k))) (bif_lift (f := (oK (S.rdel_gk l f lo len lo2 len2 rw rg rn nw ov k))) rfl rfl) rfl) rfl)
theorem S.rdel_k {R : Type} (fu : Nat) (l : FL) (f : BL) (lo len lo2 len2 : Nat) (rw rg rn nw : Int) (ov : Bool) (k : AVal → List Blk → Option R) : fnEval tis F72 fu G83 Try.f72 [.slice 1 0 lo len none, .func 93 [.ptr 1 0 0]] [.fam 119 (.pair (.int .i64) (.pair (.int .i64) (.pair (.int .i64) .bool))) l f, .var [.ptr 2 0 0], .var [.slice 1 0 lo2 len2 none, .int .i64 rw, .int .i64 rg, .int .i64 rn, .int .i64 nw, .bool ov]] k =
  ((optK (S.rix 100000 l f lo len lo2 len2 rw rg rn nw ov) fun o2 =>
   bif decide (o2 = -1) then
   k (.slice 1 0 lo len Option.none) ([.fam 119 (Cd.pair (Cd.int .i64) (Cd.pair (Cd.int .i64) (Cd.pair (Cd.int .i64) Cd.bool))) l f, .var [.ptr 2 0 0], .var [.slice 1 0 lo2 len2 Option.none, .int .i64 rw, .int .i64 rg, .int .i64 rn, .int .i64 nw, .bool ov]])
 else
   loopRun (C_rdel fu l f lo len lo2 len2 rw rg rn nw ov) G83 S.rdel_b0 fu (S.rdel_s0 l f lo len lo2 len2 rw rg rn nw ov (o2) (Go.IntKind.wrap .i64 (o2 + 1)) (l)) (contOf (C_rdel fu l f lo len lo2 len2 rw rg rn nw ov) G83 (bodyOf Try.f72) [1, 1, 1, 0, 1, 0] (retK tis F72 Try.f72 (List.length ([.fam 119 (.pair (.int .i64) (.pair (.int .i64) (.pair (.int .i64) .bool))) l f, .var [.ptr 2 0 0], .var [.slice 1 0 lo2 len2 none, .int .i64 rw, .int .i64 rg, .int .i64 rn, .int .i64 nw, .bool ov]] : List Blk)) k)))) := by kernel_rfl
noncomputable def S.rdel (fu : Nat) (l : FL) (f : BL) (lo len lo2 len2 : Nat) (rw rg rn nw : Int) (ov : Bool) : Option (Nat × Nat × List (Option Nat) × BL × Nat × Nat × Int × Int × Int × Int × Bool) :=
  (optK (S.rix 100000 l f lo len lo2 len2 rw rg rn nw ov) fun o2 =>
   bif decide (o2 = -1) then
   some (lo, len, l, f, lo2, len2, rw, rg, rn, nw, ov)
 else
   optK (S.rdel_l0 fu l f lo len lo2 len2 rw rg rn nw ov fu (o2) (Go.IntKind.wrap .i64 (o2 + 1)) (l)) (fun z : Int × Int × Bool × List (Option Nat) => S.rdel_a0_0 fu l f lo len lo2 len2 rw rg rn nw ov (z.1) (z.2.1) (z.2.2.1) (z.2.2.2)))
theorem S.rdel_v {R : Type} (fu : Nat) (l : FL) (f : BL) (lo len lo2 len2 : Nat) (rw rg rn nw : Int) (ov : Bool) (k : AVal → List Blk → Option R) : fnEval tis F72 fu G83 Try.f72 [.slice 1 0 lo len none, .func 93 [.ptr 1 0 0]] [.fam 119 (.pair (.int .i64) (.pair (.int .i64) (.pair (.int .i64) .bool))) l f, .var [.ptr 2 0 0], .var [.slice 1 0 lo2 len2 none, .int .i64 rw, .int .i64 rg, .int .i64 rn, .int .i64 nw, .bool ov]] k = oK (fun v : Nat × Nat × List (Option Nat) × BL × Nat × Nat × Int × Int × Int × Int × Bool => k (.slice 1 0 v.1 v.2.1 none) [(.fam 119 (Cd.pair (Cd.int .i64) (Cd.pair (Cd.int .i64) (Cd.pair (Cd.int .i64) Cd.bool))) v.2.2.1 v.2.2.2.1), (.var [(.ptr 2 (0) 0)]), (.var [(.slice 1 0 v.2.2.2.2.1 v.2.2.2.2.2.1 none), (.int .i64 v.2.2.2.2.2.2.1), (.int .i64 v.2.2.2.2.2.2.2.1), (.int .i64 v.2.2.2.2.2.2.2.2.1), (.int .i64 v.2.2.2.2.2.2.2.2.2.1), (.bool v.2.2.2.2.2.2.2.2.2.2)])]) (S.rdel fu l f lo len lo2 len2 rw rg rn nw ov) :=
  (S.rdel_k fu l f lo len lo2 len2 rw rg rn nw ov k).trans (opt_lift fun o2 => (bif_lift (f := (oK (S.rdel_gk l f lo len lo2 len2 rw rg rn nw ov k))) rfl (arr_lift (S.rdel_l0_v fu l f lo len lo2 len2 rw rg rn nw ov (contOf (C_rdel fu l f lo len lo2 len2 rw rg rn nw ov) G83 (bodyOf Try.f72) [1, 1, 1, 0, 1, 0] (retK tis F72 Try.f72 (List.length ([.fam 119 (.pair (.int .i64) (.pair (.int .i64) (.pair (.int .i64) .bool))) l f, .var [.ptr 2 0 0], .var [.slice 1 0 lo2 len2 none, .int .i64 rw, .int .i64 rg, .int .i64 rn, .int .i64 nw, .bool ov]] : List Blk)) k)) fu (o2) (Go.IntKind.wrap .i64 (o2 + 1)) (l)) ((fun z => S.rdel_a0_0_v fu l f lo len lo2 len2 rw rg rn nw ov (z.1) (z.2.1) (z.2.2.1) (z.2.2.2) k)))))
noncomputable def C_rdel1 (fu : Nat) (rw rg rn nw : Int) (ov : Bool) : Cfg := Cfg.of tis F72 fu (List.length ([.var [.ptr 1 0 0], .var [.nils, .int .i64 rw, .int .i64 rg, .int .i64 rn, .int .i64 nw, .bool ov]] : List Blk)) Try.f72.ntmps
noncomputable def S.rdel1_b0 : Code := codeAt (bodyOf Try.f72) [1, 1, 1, 0, 1, 0, 0]
noncomputable def S.rdel1_gk {R : Type} (rw rg rn nw : Int) (ov : Bool) (k : AVal → List Blk → Option R) : (Int × Int × Int × Int × Bool) → Option R := (fun v : Int × Int × Int × Int × Bool => k .nils [(.var [(.ptr 1 (0) 0)]), (.var [.nils, (.int .i64 v.1), (.int .i64 v.2.1), (.int .i64 v.2.2.1), (.int .i64 v.2.2.2.1), (.bool v.2.2.2.2)])])
theorem S.rdel1_k {R : Type} (fu : Nat) (rw rg rn nw : Int) (ov : Bool) (k : AVal → List Blk → Option R) : fnEval tis F72 fu G83 Try.f72 [.nils, .func 93 [.ptr 0 0 0]] [.var [.ptr 1 0 0], .var [.nils, .int .i64 rw, .int .i64 rg, .int .i64 rn, .int .i64 nw, .bool ov]] k =
  (k (.nils) ([.var [.ptr 1 0 0], .var [.nils, .int .i64 rw, .int .i64 rg, .int .i64 rn, .int .i64 nw, .bool ov]])) := by kernel_rfl
noncomputable def S.rdel1 (fu : Nat) (rw rg rn nw : Int) (ov : Bool) : Option (Int × Int × Int × Int × Bool) :=
  some (rw, rg, rn, nw, ov)
theorem S.rdel1_v {R : Type} (fu : Nat) (rw rg rn nw : Int) (ov : Bool) (k : AVal → List Blk → Option R) : fnEval tis F72 fu G83 Try.f72 [.nils, .func 93 [.ptr 0 0 0]] [.var [.ptr 1 0 0], .var [.nils, .int .i64 rw, .int .i64 rg, .int .i64 rn, .int .i64 nw, .bool ov]] k = oK (fun v : Int × Int × Int × Int × Bool => k .nils [(.var [(.ptr 1 (0) 0)]), (.var [.nils, (.int .i64 v.1), (.int .i64 v.2.1), (.int .i64 v.2.2.1), (.int .i64 v.2.2.2.1), (.bool v.2.2.2.2)])]) (S.rdel1 fu rw rg rn nw ov) :=
  (S.rdel1_k fu rw rg rn nw ov k).trans rfl
noncomputable def C_ddel (fu : Nat) (l : WL) (lo len : Nat) (t : Int) : Cfg := Cfg.of tis F72 fu (List.length ([.rows (.box 106 (.pair (.int .i64) (.int .i64))) l false, .var [.int .i64 t]] : List Blk)) Try.f72.ntmps
noncomputable def S.ddel_b0 : Code := codeAt (bodyOf Try.f72) [1, 1, 1, 0, 1, 0, 0]
noncomputable def S.ddel_s0 (l : WL) (lo len : Nat) (t : Int) (y0 : Int) (y1 : Int) (y2 : WL) : St := ⟨[(0, (.slice 1 0 (lo) (len) none)), (1, (.func 73 [(.ptr 1 (0) 0)])), (5, (.int .i64 (y0))), (6, (.int .i64 (y1)))], [(.rows (Cd.box 106 (Cd.pair (Cd.int .i64) (Cd.int .i64))) (y2) false), (.var [(.int .i64 (t))])]⟩
noncomputable def S.ddel_x0_0 (l : WL) (lo len : Nat) (t : Int) (z0 : Int) (z1 : Int) (z2 : Bool) (z3 : WL) : St := ⟨[(0, (.slice 1 0 (lo) (len) none)), (1, (.func 73 [(.ptr 1 (0) 0)])), (5, (.int .i64 (z0))), (6, (.int .i64 (z1))), (19, (.bool (z2)))], [(.rows (Cd.box 106 (Cd.pair (Cd.int .i64) (Cd.int .i64))) (z3) false), (.var [(.int .i64 (t))])]⟩
noncomputable def S.ddel_g0 {R : Type} (l : WL) (lo len : Nat) (t : Int) (K : Ex → St → Option R) : ((Int × Int × Bool × WL)) → Option R := (fun z : Int × Int × Bool × WL => K (Ex.exit 0) (S.ddel_x0_0 l lo len t (z.1) (z.2.1) (z.2.2.1) (z.2.2.2)))
noncomputable def S.ddel_gk {R : Type} (l : WL) (lo len : Nat) (t : Int) (k : AVal → List Blk → Option R) : (Nat × Nat × WL × Int) → Option R := (fun v : Nat × Nat × WL × Int => k (.slice 1 0 v.1 v.2.1 none) [(.rows (Cd.box 106 (Cd.pair (Cd.int .i64) (Cd.int .i64))) v.2.2.1 false), (.var [(.int .i64 v.2.2.2)])])
theorem S.ddel_l0_k {R : Type} (fu : Nat) (l : WL) (lo len : Nat) (t : Int) (n : Nat) (K : Ex → St → Option R) (y0 : Int) (y1 : Int) (y2 : WL) : loopRun (C_ddel fu l lo len t) G83 S.ddel_b0 (n + 1) (S.ddel_s0 l lo len t (y0) (y1) (y2)) K =
  (bif decide (y1 < ((len : Nat) : Int)) then
   bif inB y1 len then
   (optK (y2[Int.toNat y1 + lo]?) fun o4 =>
   (optC (o4) (loopRun (C_ddel fu l lo len t) G83 S.ddel_b0 n (S.ddel_s0 l lo len t (y0) (Go.IntKind.wrap .i64 (y1 + 1)) (y2)) K) fun o5 =>
   bif !S.dold o5.1 o5.2 t then
   bif inB y0 len then
   bif Nat.blt (Int.toNat y0 + lo) (List.length y2) then
   loopRun (C_ddel fu l lo len t) G83 S.ddel_b0 n (S.ddel_s0 l lo len t (Go.IntKind.wrap .i64 (y0 + 1)) (Go.IntKind.wrap .i64 (y1 + 1)) (List.set y2 (Int.toNat y0 + lo) (Option.some (o5.1, o5.2)))) K
 else
   none
 else
   none
 else
   loopRun (C_ddel fu l lo len t) G83 S.ddel_b0 n (S.ddel_s0 l lo len t (y0) (Go.IntKind.wrap .i64 (y1 + 1)) (y2)) K))
 else
   none
 else
   K (Ex.exit 0) (S.ddel_x0_0 l lo len t (y0) (y1) (decide (y1 < ((len : Nat) : Int))) (y2))) := by kernel_rfl
noncomputable def S.ddel_l0 (fu : Nat) (l : WL) (lo len : Nat) (t : Int) : Nat → (Int) → (Int) → (WL) → Option ((Int × Int × Bool × WL))
  | 0, _, _, _ => none
  | n + 1, y0, y1, y2 =>
    bif decide (y1 < ((len : Nat) : Int)) then
   bif inB y1 len then
   (optK (y2[Int.toNat y1 + lo]?) fun o4 =>
   (optC (o4) ((S.ddel_l0 fu l lo len t n) (y0) (Go.IntKind.wrap .i64 (y1 + 1)) (y2)) fun o5 =>
   bif !S.dold o5.1 o5.2 t then
   bif inB y0 len then
   bif Nat.blt (Int.toNat y0 + lo) (List.length y2) then
   (S.ddel_l0 fu l lo len t n) (Go.IntKind.wrap .i64 (y0 + 1)) (Go.IntKind.wrap .i64 (y1 + 1)) (List.set y2 (Int.toNat y0 + lo) (Option.some (o5.1, o5.2)))
 else
   none
 else
   none
 else
   (S.ddel_l0 fu l lo len t n) (y0) (Go.IntKind.wrap .i64 (y1 + 1)) (y2)))
 else
   none
 else
   some (y0, y1, decide (y1 < ((len : Nat) : Int)), y2)
theorem S.ddel_l0_v {R : Type} (fu : Nat) (l : WL) (lo len : Nat) (t : Int) (K : Ex → St → Option R) : ∀ (n : Nat) (y0 : Int) (y1 : Int) (y2 : WL), loopRun (C_ddel fu l lo len t) G83 S.ddel_b0 n (S.ddel_s0 l lo len t (y0) (y1) (y2)) K = oK (β := (Int × Int × Bool × WL)) (S.ddel_g0 l lo len t K) (S.ddel_l0 fu l lo len t n y0 y1 y2)
  | 0, _, _, _ => rfl
  | n + 1, y0, y1, y2 => (S.ddel_l0_k fu l lo len t n K y0 y1 y2).trans (bif_lift (f := (oK (S.ddel_g0 l lo len t K))) (bif_lift (f := (oK (S.ddel_g0 l lo len t K))) (opt_lift fun o4 => (optC_lift (f := (oK (S.ddel_g0 l lo len t K))) (S.ddel_l0_v fu l lo len t K n (y0) (Go.IntKind.wrap .i64 (y1 + 1)) (y2)) fun o5 => (bif_lift (f := (oK (S.ddel_g0 l lo len t K))) (bif_lift (f := (oK (S.ddel_g0 l lo len t K))) (bif_lift (f := (oK (S.ddel_g0 l lo len t K))) (S.ddel_l0_v fu l lo len t K n (Go.IntKind.wrap .i64 (y0 + 1)) (Go.IntKind.wrap .i64 (y1 + 1)) (List.set y2 (Int.toNat y0 + lo) (Option.some (o5.1, o5.2)))) rfl) rfl) (S.ddel_l0_v fu l lo len t K n (y0) (Go.IntKind.wrap .i64 (y1 + 1)) (y2))))) rfl) rfl)
theorem S.ddel_a0_0_k {R : Type} (fu : Nat) (l : WL) (lo len : Nat) (t : Int) (z0 : Int) (z1 : Int) (z2 : Bool) (z3 : WL) (k : AVal → List Blk → Option R) : contOf (C_ddel fu l lo len t) G83 (bodyOf Try.f72) [1, 1, 1, 0, 1, 0] (retK tis F72 Try.f72 (List.length ([.rows (.box 106 (.pair (.int .i64) (.int .i64))) l false, .var [.int .i64 t]] : List Blk)) k) (Ex.exit 0) (S.ddel_x0_0 l lo len t (z0) (z1) (z2) (z3)) =
  (bif decide (0 ≤ z0 ∧ z0 ≤ ((len : Nat) : Int)) then
   bif Nat.ble (Int.toNat z0 + lo + (len - Int.toNat z0)) (List.length z3) then
   bif decide (0 ≤ z0 ∧ z0 ≤ ((len : Nat) : Int)) then
   k (.slice 1 0 lo (Int.toNat z0) Option.none) ([.rows (Cd.box 106 (Cd.pair (Cd.int .i64) (Cd.int .i64))) (List.take (Int.toNat z0 + lo) z3 ++ fillRows Option.none (len - Int.toNat z0) (List.drop (Int.toNat z0 + lo) z3)) false, .var [.int .i64 t]])
 else
   none
 else
   none
 else
   none) := by kernel_rfl
noncomputable def S.ddel_a0_0 (fu : Nat) (l : WL) (lo len : Nat) (t : Int) (z0 : Int) (z1 : Int) (z2 : Bool) (z3 : WL) : Option (Nat × Nat × WL × Int) :=
  bif decide (0 ≤ z0 ∧ z0 ≤ ((len : Nat) : Int)) then
   bif Nat.ble (Int.toNat z0 + lo + (len - Int.toNat z0)) (List.length z3) then
   bif decide (0 ≤ z0 ∧ z0 ≤ ((len : Nat) : Int)) then
   some (lo, Int.toNat z0, List.take (Int.toNat z0 + lo) z3 ++ fillRows Option.none (len - Int.toNat z0) (List.drop (Int.toNat z0 + lo) z3), t)
 else
   none
 else
   none
 else
   none
theorem S.ddel_a0_0_v {R : Type} (fu : Nat) (l : WL) (lo len : Nat) (t : Int) (z0 : Int) (z1 : Int) (z2 : Bool) (z3 : WL) (k : AVal → List Blk → Option R) : contOf (C_ddel fu l lo len t) G83 (bodyOf Try.f72) [1, 1, 1, 0, 1, 0] (retK tis F72 Try.f72 (List.length ([.rows (.box 106 (.pair (.int .i64) (.int .i64))) l false, .var [.int .i64 t]] : List Blk)) k) (Ex.exit 0) (S.ddel_x0_0 l lo len t (z0) (z1) (z2) (z3)) = oK (S.ddel_gk l lo len t k) (S.ddel_a0_0 fu l lo len t z0 z1 z2 z3) :=
  (S.ddel_a0_0_k fu l lo len t z0 z1 z2 z3 k).trans (bif_lift (f := (oK (S.ddel_gk l lo len t k))) (bif_lift (f := (oK (S.ddel_gk l lo len t k))) (bif_lift (f := (oK (S.ddel_gk l lo len t k))) rfl rfl) rfl) rfl)
theorem S.ddel_k {R : Type} (fu : Nat) (l : WL) (lo len : Nat) (t : Int) (k : AVal → List Blk → Option R) : fnEval tis F72 fu G83 Try.f72 [.slice 1 0 lo len none, .func 73 [.ptr 1 0 0]] [.rows (.box 106 (.pair (.int .i64) (.int .i64))) l false, .var [.int .i64 t]] k =
  ((optK (S.dix 100000 l lo len t) fun o2 =>
   bif decide (o2 = -1) then
   k (.slice 1 0 lo len Option.none) ([.rows (Cd.box 106 (Cd.pair (Cd.int .i64) (Cd.int .i64))) l false, .var [.int .i64 t]])
 else
   loopRun (C_ddel fu l lo len t) G83 S.ddel_b0 fu (S.ddel_s0 l lo len t (o2) (Go.IntKind.wrap .i64 (o2 + 1)) (l)) (contOf (C_ddel fu l lo len t) G83 (bodyOf Try.f72) [1, 1, 1, 0, 1, 0] (retK tis F72 Try.f72 (List.length ([.rows (.box 106 (.pair (.int .i64) (.int .i64))) l false, .var [.int .i64 t]] : List Blk)) k)))) := by kernel_rfl
noncomputable def S.ddel (fu : Nat) (l : WL) (lo len : Nat) (t : Int) : Option (Nat × Nat × WL × Int) :=
  (optK (S.dix 100000 l lo len t) fun o2 =>
   bif decide (o2 = -1) then
   some (lo, len, l, t)
 else
   optK (S.ddel_l0 fu l lo len t fu (o2) (Go.IntKind.wrap .i64 (o2 + 1)) (l)) (fun z : Int × Int × Bool × WL => S.ddel_a0_0 fu l lo len t (z.1) (z.2.1) (z.2.2.1) (z.2.2.2)))
theorem S.ddel_v {R : Type} (fu : Nat) (l : WL) (lo len : Nat) (t : Int) (k : AVal → List Blk → Option R) : fnEval tis F72 fu G83 Try.f72 [.slice 1 0 lo len none, .func 73 [.ptr 1 0 0]] [.rows (.box 106 (.pair (.int .i64) (.int .i64))) l false, .var [.int .i64 t]] k = oK (fun v : Nat × Nat × WL × Int => k (.slice 1 0 v.1 v.2.1 none) [(.rows (Cd.box 106 (Cd.pair (Cd.int .i64) (Cd.int .i64))) v.2.2.1 false), (.var [(.int .i64 v.2.2.2)])]) (S.ddel fu l lo len t) :=
  (S.ddel_k fu l lo len t k).trans (opt_lift fun o2 => (bif_lift (f := (oK (S.ddel_gk l lo len t k))) rfl (arr_lift (S.ddel_l0_v fu l lo len t (contOf (C_ddel fu l lo len t) G83 (bodyOf Try.f72) [1, 1, 1, 0, 1, 0] (retK tis F72 Try.f72 (List.length ([.rows (.box 106 (.pair (.int .i64) (.int .i64))) l false, .var [.int .i64 t]] : List Blk)) k)) fu (o2) (Go.IntKind.wrap .i64 (o2 + 1)) (l)) ((fun z => S.ddel_a0_0_v fu l lo len t (z.1) (z.2.1) (z.2.2.1) (z.2.2.2) k)))))
noncomputable def C_ddel1 (fu : Nat) (t : Int) : Cfg := Cfg.of tis F72 fu (List.length ([.var [.int .i64 t]] : List Blk)) Try.f72.ntmps
noncomputable def S.ddel1_b0 : Code := codeAt (bodyOf Try.f72) [1, 1, 1, 0, 1, 0, 0]
noncomputable def S.ddel1_gk {R : Type} (t : Int) (k : AVal → List Blk → Option R) : (Int) → Option R := (fun v : Int => k .nils [(.var [(.int .i64 v)])])
theorem S.ddel1_k {R : Type} (fu : Nat) (t : Int) (k : AVal → List Blk → Option R) : fnEval tis F72 fu G83 Try.f72 [.nils, .func 73 [.ptr 0 0 0]] [.var [.int .i64 t]] k =
  (k (.nils) ([.var [.int .i64 t]])) := by kernel_rfl
noncomputable def S.ddel1 (fu : Nat) (t : Int) : Option (Int) :=
  some (t)
theorem S.ddel1_v {R : Type} (fu : Nat) (t : Int) (k : AVal → List Blk → Option R) : fnEval tis F72 fu G83 Try.f72 [.nils, .func 73 [.ptr 0 0 0]] [.var [.int .i64 t]] k = oK (fun v : Int => k .nils [(.var [(.int .i64 v)])]) (S.ddel1 fu t) :=
  (S.ddel1_k fu t k).trans rfl
noncomputable def H72 : Hnd := fun R args σ k => match args, σ with
  | [.slice 1 0 lo len none, .func 93 [.ptr 1 0 0]], [.fam 119 (.pair (.int .i64) (.pair (.int .i64) (.pair (.int .i64) .bool))) l f, .var [.ptr 2 0 0], .var [.slice 1 0 lo2 len2 none, .int .i64 rw, .int .i64 rg, .int .i64 rn, .int .i64 nw, .bool ov]] => oK (fun v : Nat × Nat × List (Option Nat) × BL × Nat × Nat × Int × Int × Int × Int × Bool => k (.slice 1 0 v.1 v.2.1 none) [(.fam 119 (Cd.pair (Cd.int .i64) (Cd.pair (Cd.int .i64) (Cd.pair (Cd.int .i64) Cd.bool))) v.2.2.1 v.2.2.2.1), (.var [(.ptr 2 (0) 0)]), (.var [(.slice 1 0 v.2.2.2.2.1 v.2.2.2.2.2.1 none), (.int .i64 v.2.2.2.2.2.2.1), (.int .i64 v.2.2.2.2.2.2.2.1), (.int .i64 v.2.2.2.2.2.2.2.2.1), (.int .i64 v.2.2.2.2.2.2.2.2.2.1), (.bool v.2.2.2.2.2.2.2.2.2.2)])]) (S.rdel 100000 l f lo len lo2 len2 rw rg rn nw ov)
  | [.nils, .func 93 [.ptr 0 0 0]], [.var [.ptr 1 0 0], .var [.nils, .int .i64 rw, .int .i64 rg, .int .i64 rn, .int .i64 nw, .bool ov]] => oK (fun v : Int × Int × Int × Int × Bool => k .nils [(.var [(.ptr 1 (0) 0)]), (.var [.nils, (.int .i64 v.1), (.int .i64 v.2.1), (.int .i64 v.2.2.1), (.int .i64 v.2.2.2.1), (.bool v.2.2.2.2)])]) (S.rdel1 100000 rw rg rn nw ov)
  | [.slice 1 0 lo len none, .func 73 [.ptr 1 0 0]], [.rows (.box 106 (.pair (.int .i64) (.int .i64))) l false, .var [.int .i64 t]] => oK (fun v : Nat × Nat × WL × Int => k (.slice 1 0 v.1 v.2.1 none) [(.rows (Cd.box 106 (Cd.pair (Cd.int .i64) (Cd.int .i64))) v.2.2.1 false), (.var [(.int .i64 v.2.2.2)])]) (S.ddel 100000 l lo len t)
  | [.nils, .func 73 [.ptr 0 0 0]], [.var [.int .i64 t]] => oK (fun v : Int => k .nils [(.var [(.int .i64 v)])]) (S.ddel1 100000 t)
  | _, _ => none
theorem H72_ok : HndOk Try.prog 72 H72 := hnd_ok tis tisOk mixOk G83_ok F72 Try.func72 rfl (by
  intro R args σ k r h
  unfold H72 at h
  split at h
  · rename_i lo len l f lo2 len2 rw rg rn nw ov; exact ⟨100000, (S.rdel_v 100000 l f lo len lo2 len2 rw rg rn nw ov _).trans h⟩
  · rename_i rw rg rn nw ov; exact ⟨100000, (S.rdel1_v 100000 rw rg rn nw ov _).trans h⟩
  · rename_i lo len l t; exact ⟨100000, (S.ddel_v 100000 l lo len t _).trans h⟩
  · rename_i t; exact ⟨100000, (S.ddel1_v 100000 t _).trans h⟩
  · cases h)
noncomputable def G72 : Env := Env.add 72 H72 G83
theorem G72_ok : EnvOk Try.prog G72 := envAdd_ok H72_ok G83_ok
end Go.Proofs.Ytdgipcjigbagfaa.AB
