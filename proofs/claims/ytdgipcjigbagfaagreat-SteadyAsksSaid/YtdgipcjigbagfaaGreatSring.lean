/- Rings, as plain functions. -/
import Derived.Test.YtdgipcjigbagfaaGreatSwant
namespace Go.Proofs.YtdgipcjigbagfaaGreat.AB
set_option linter.unusedVariables false

/-! ring.Buckets -/
def F103 : FCfg := ⟨keepAt [(0, [0, 1]), (1, [4])], loopAt [], []⟩
noncomputable def S.pbuckets_L {R : Type} (w g : Int) (k : AVal → List Blk → Option R) : Option R := fnEval tis F103 0 G54 Tryz.f103 [.int .i64 w, .int .i64 g] [] k
noncomputable def S.pbuckets_gk {R : Type} (w g : Int) (k : AVal → List Blk → Option R) : (Int) → Option R := (fun v : Int => k (.int .i64 v) [])
noncomputable def S.pbuckets (w g : Int) : Option (Int) :=
  bif decide (g = 0) then
   none
 else
   some (Go.IntKind.wrap .i64 (Int.tdiv (Go.IntKind.wrap .i64 (Go.IntKind.wrap .i64 (w + g) - 1)) g))
theorem S.pbuckets_v {R : Type} (w g : Int) (k : AVal → List Blk → Option R) : S.pbuckets_L w g k = oK (S.pbuckets_gk w g k) (S.pbuckets w g) :=
  Eq.trans (b := (bif decide (g = 0) then
   none
 else
   (S.pbuckets_gk w g k) (Go.IntKind.wrap .i64 (Int.tdiv (Go.IntKind.wrap .i64 (Go.IntKind.wrap .i64 (w + g) - 1)) g)))) (by kernel_rfl) (bif_lift (f := (oK (S.pbuckets_gk w g k))) rfl rfl)
noncomputable def H103 : Hnd := fun R args σ k => match args, σ with
  | [.int .i64 w, .int .i64 g], [] => oK (fun v : Int => k (.int .i64 v) []) (S.pbuckets w g)
  | _, _ => none
theorem H103_ok : HndOk Tryz.prog 103 H103 := hnd_ok tis tisOk mixOk G54_ok F103 Tryz.func103 rfl (by
  intro R args σ k r h
  unfold H103 at h
  split at h
  · rename_i w g; exact ⟨0, (S.pbuckets_v w g _).trans h⟩
  · cases h)
noncomputable def G103 : Env := Env.add 103 H103 G54
theorem G103_ok : EnvOk Tryz.prog G103 := envAdd_ok H103_ok G54_ok

/-! ring.New -/
def F73 : FCfg := ⟨keepAt [(0, [0, 1]), (1, [0, 1, 19]), (2, [4]), (3, [4])], loopAt [], []⟩
noncomputable def S.pring_L {R : Type} (w g : Int) (k : AVal → List Blk → Option R) : Option R := fnEval tis F73 0 G103 Tryz.f73 [.int .i64 w, .int .i64 g] [] k
noncomputable def S.pring_gk {R : Type} (w g : Int) (k : AVal → List Blk → Option R) : ((Unit) ⊕ (Int × Int × Int)) → Option R := (Sum.elim (fun v : Unit => k .nilp []) (fun v : Int × Int × Int => k (.ptr 0 (0) 0) [(.var [.nils, (.int .i64 v.1), (.int .i64 v.2.1), (.int .i64 v.2.2), (.int .i64 (-1)), (.bool (false))])]))
noncomputable def S.pring (w g : Int) : Option ((Unit) ⊕ (Int × Int × Int)) :=
  bif decide (w < 1) then
   some (.inl ())
 else
   bif decide (600 < w) then
   some (.inl ())
 else
   bif decide (g < 1) then
   some (.inl ())
 else
   bif decide (w < g) then
   some (.inl ())
 else
   (optK (S.pbuckets w g) fun o6 =>
   some (.inr (w, g, o6)))
theorem S.pring_v {R : Type} (w g : Int) (k : AVal → List Blk → Option R) : S.pring_L w g k = oK (S.pring_gk w g k) (S.pring w g) :=
  Eq.trans (b := (bif decide (w < 1) then
   (S.pring_gk w g k) (.inl ())
 else
   bif decide (600 < w) then
   (S.pring_gk w g k) (.inl ())
 else
   bif decide (g < 1) then
   (S.pring_gk w g k) (.inl ())
 else
   bif decide (w < g) then
   (S.pring_gk w g k) (.inl ())
 else
   (optK (S.pbuckets w g) fun o6 =>
   (S.pring_gk w g k) (.inr (w, g, o6))))) (by kernel_rfl) (bif_lift (f := (oK (S.pring_gk w g k))) rfl (bif_lift (f := (oK (S.pring_gk w g k))) rfl (bif_lift (f := (oK (S.pring_gk w g k))) rfl (bif_lift (f := (oK (S.pring_gk w g k))) rfl (opt_lift fun o6 => rfl)))))
noncomputable def H73 : Hnd := fun R args σ k => match args, σ with
  | [.int .i64 w, .int .i64 g], [] => oK (Sum.elim (fun v : Unit => k .nilp []) (fun v : Int × Int × Int => k (.ptr 0 (0) 0) [(.var [.nils, (.int .i64 v.1), (.int .i64 v.2.1), (.int .i64 v.2.2), (.int .i64 (-1)), (.bool (false))])])) (S.pring w g)
  | _, _ => none
theorem H73_ok : HndOk Tryz.prog 73 H73 := hnd_ok tis tisOk mixOk G103_ok F73 Tryz.func73 rfl (by
  intro R args σ k r h
  unfold H73 at h
  split at h
  · rename_i w g; exact ⟨0, (S.pring_v w g _).trans h⟩
  · cases h)
noncomputable def G73 : Env := Env.add 73 H73 G103
theorem G73_ok : EnvOk Tryz.prog G73 := envAdd_ok H73_ok G103_ok

/-! (*ring.Ring).forget$1 -/
def F119 : FCfg := ⟨keepAt [(0, [0, 1]), (1, [1, 4, 5]), (2, [3])], loopAt [], []⟩
noncomputable def S.rgone_L {R : Type} (l : FL) (f : BL) (q lo len : Nat) (rw rg rn nw : Int) (ov : Bool) (k : AVal → List Blk → Option R) : Option R := fnEval tis F119 0 G73 Tryz.f119 [.iface 135 (.fptr 0 q 0), .ptr 1 0 0] [.fam 135 (.pair (.int .i64) (.pair (.int .i64) (.pair (.int .i64) .bool))) l f, .var [.ptr 2 0 0], .var [.slice 1 0 lo len none, .int .i64 rw, .int .i64 rg, .int .i64 rn, .int .i64 nw, .bool ov]] k
noncomputable def S.rgone_gk {R : Type} (l : FL) (f : BL) (q lo len : Nat) (rw rg rn nw : Int) (ov : Bool) (k : AVal → List Blk → Option R) : (Bool) → Option R := (fun v : Bool => k (.bool v) [.fam 135 (.pair (.int .i64) (.pair (.int .i64) (.pair (.int .i64) .bool))) l f, .var [.ptr 2 0 0], .var [.slice 1 0 lo len none, .int .i64 rw, .int .i64 rg, .int .i64 rn, .int .i64 nw, .bool ov]])
noncomputable def S.rgone (l : FL) (f : BL) (q lo len : Nat) (rw rg rn nw : Int) (ov : Bool) : Option (Bool) :=
  (optK (f[q]?) fun o2 =>
   some (decide (rn ≤ Go.IntKind.wrap .i64 (nw - o2.1))))
theorem S.rgone_v {R : Type} (l : FL) (f : BL) (q lo len : Nat) (rw rg rn nw : Int) (ov : Bool) (k : AVal → List Blk → Option R) : S.rgone_L l f q lo len rw rg rn nw ov k = oK (fun v : Bool => k (.bool v) [.fam 135 (.pair (.int .i64) (.pair (.int .i64) (.pair (.int .i64) .bool))) l f, .var [.ptr 2 0 0], .var [.slice 1 0 lo len none, .int .i64 rw, .int .i64 rg, .int .i64 rn, .int .i64 nw, .bool ov]]) (S.rgone l f q lo len rw rg rn nw ov) :=
  Eq.trans (b := ((optK (f[q]?) fun o2 =>
   (S.rgone_gk l f q lo len rw rg rn nw ov k) (decide (rn ≤ Go.IntKind.wrap .i64 (nw - o2.1)))))) (by kernel_rfl) (opt_lift fun o2 => rfl)
noncomputable def H119 : Hnd := fun R args σ k => match args, σ with
  | [.iface 135 (.fptr 0 q 0), .ptr 1 0 0], [.fam 135 (.pair (.int .i64) (.pair (.int .i64) (.pair (.int .i64) .bool))) l f, .var [.ptr 2 0 0], .var [.slice 1 0 lo len none, .int .i64 rw, .int .i64 rg, .int .i64 rn, .int .i64 nw, .bool ov]] => oK (fun v : Bool => k (.bool v) []) (S.rgone l f q lo len rw rg rn nw ov)
  | _, _ => none
theorem H119_ok : HndOk Tryz.prog 119 H119 := hnd_ok_pure tis tisOk mixOk G73_ok F119 Tryz.func119 rfl (by
  intro R args σ k r h
  unfold H119 at h
  split at h
  · rename_i q l f lo len rw rg rn nw ov; exact ⟨0, (S.rgone_v l f q lo len rw rg rn nw ov _).trans ((congrArg (fun g9 => oK g9 (S.rgone l f q lo len rw rg rn nw ov)) (funext fun v => if_pos rfl)).trans h)⟩
  · cases h)
noncomputable def G119 : Env := Env.add 119 H119 G73
theorem G119_ok : EnvOk Tryz.prog G119 := envAdd_ok H119_ok G73_ok

/-! (*ring.Ring).Put$1 -/
def F106 : FCfg := ⟨keepAt [(0, [0, 1]), (1, [3])], loopAt [], []⟩
noncomputable def S.rhere_L {R : Type} (l : FL) (f : BL) (q : Nat) (a : Int) (k : AVal → List Blk → Option R) : Option R := fnEval tis F106 0 G119 Tryz.f106 [.iface 135 (.fptr 0 q 0), .ptr 1 0 0] [.fam 135 (.pair (.int .i64) (.pair (.int .i64) (.pair (.int .i64) .bool))) l f, .var [.int .i64 a]] k
noncomputable def S.rhere_gk {R : Type} (l : FL) (f : BL) (q : Nat) (a : Int) (k : AVal → List Blk → Option R) : (Bool) → Option R := (fun v : Bool => k (.bool v) [.fam 135 (.pair (.int .i64) (.pair (.int .i64) (.pair (.int .i64) .bool))) l f, .var [.int .i64 a]])
noncomputable def S.rhere (l : FL) (f : BL) (q : Nat) (a : Int) : Option (Bool) :=
  (optK (f[q]?) fun o2 =>
   some (decide (o2.1 = a)))
theorem S.rhere_v {R : Type} (l : FL) (f : BL) (q : Nat) (a : Int) (k : AVal → List Blk → Option R) : S.rhere_L l f q a k = oK (fun v : Bool => k (.bool v) [.fam 135 (.pair (.int .i64) (.pair (.int .i64) (.pair (.int .i64) .bool))) l f, .var [.int .i64 a]]) (S.rhere l f q a) :=
  Eq.trans (b := ((optK (f[q]?) fun o2 =>
   (S.rhere_gk l f q a k) (decide (o2.1 = a))))) (by kernel_rfl) (opt_lift fun o2 => rfl)
noncomputable def H106 : Hnd := fun R args σ k => match args, σ with
  | [.iface 135 (.fptr 0 q 0), .ptr 1 0 0], [.fam 135 (.pair (.int .i64) (.pair (.int .i64) (.pair (.int .i64) .bool))) l f, .var [.int .i64 a]] => oK (fun v : Bool => k (.bool v) []) (S.rhere l f q a)
  | _, _ => none
theorem H106_ok : HndOk Tryz.prog 106 H106 := hnd_ok_pure tis tisOk mixOk G119_ok F106 Tryz.func106 rfl (by
  intro R args σ k r h
  unfold H106 at h
  split at h
  · rename_i q l f a; exact ⟨0, (S.rhere_v l f q a _).trans ((congrArg (fun g9 => oK g9 (S.rhere l f q a)) (funext fun v => if_pos rfl)).trans h)⟩
  · cases h)
noncomputable def G106 : Env := Env.add 106 H106 G119
theorem G106_ok : EnvOk Tryz.prog G106 := envAdd_ok H106_ok G119_ok

/-! (*delay.Delay).Put$1 -/
def F87 : FCfg := ⟨keepAt [(0, [0, 1]), (1, [1, 4, 5]), (2, [3])], loopAt [], []⟩
noncomputable def S.dold_L {R : Type} (x w t : Int) (k : AVal → List Blk → Option R) : Option R := fnEval tis F87 0 G106 Tryz.f87 [.iface 115 (.agg [.int .i64 x, .int .i64 w]), .ptr 0 0 0] [.var [.int .i64 t]] k
noncomputable def S.dold (x w t : Int) : Bool :=
  (decide (600 < Go.IntKind.wrap .i64 (t - x)))
theorem S.dold_v {R : Type} (x w t : Int) (k : AVal → List Blk → Option R) : S.dold_L x w t k = k (.bool (S.dold x w t)) [.var [.int .i64 t]] :=
  Eq.trans (b := (k (.bool (decide (600 < Go.IntKind.wrap .i64 (t - x)))) ([.var [.int .i64 t]]))) (by kernel_rfl) rfl
noncomputable def S.dold1_L {R : Type} (t : Int) (k : AVal → List Blk → Option R) : Option R := fnEval tis F87 0 G106 Tryz.f87 [.nili, .ptr 0 0 0] [.var [.int .i64 t]] k
noncomputable def S.dold1 (t : Int) : Bool :=
  (true)
theorem S.dold1_v {R : Type} (t : Int) (k : AVal → List Blk → Option R) : S.dold1_L t k = k (.bool (S.dold1 t)) [.var [.int .i64 t]] :=
  Eq.trans (b := (k (.bool true) ([.var [.int .i64 t]]))) (by kernel_rfl) rfl
noncomputable def H87 : Hnd := fun R args σ k => match args, σ with
  | [.iface 115 (.agg [.int .i64 x, .int .i64 w]), .ptr 0 0 0], [.var [.int .i64 t]] => k (.bool (S.dold x w t)) []
  | [.nili, .ptr 0 0 0], [.var [.int .i64 t]] => k (.bool (S.dold1 t)) []
  | _, _ => none
theorem H87_ok : HndOk Tryz.prog 87 H87 := hnd_ok_pure tis tisOk mixOk G106_ok F87 Tryz.func87 rfl (by
  intro R args σ k r h
  unfold H87 at h
  split at h
  · rename_i x w t; exact ⟨0, (S.dold_v x w t _).trans ((if_pos rfl).trans h)⟩
  · rename_i t; exact ⟨0, (S.dold1_v t _).trans ((if_pos rfl).trans h)⟩
  · cases h)
noncomputable def G87 : Env := Env.add 87 H87 G106
theorem G87_ok : EnvOk Tryz.prog G87 := envAdd_ok H87_ok G106_ok

/-! slices.IndexFunc[[]any,any] -/
def F105 : FCfg := ⟨keepAt [(0, [0, 1]), (1, [0, 1, 7, 8]), (2, [0, 1, 7, 8, 9]), (3, [0, 1, 5, 7, 8]), (4, [0, 1, 5, 7, 8, 16]), (5, [4]), (6, [0, 1, 7, 8]), (7, [4])], loopAt [(2, [0, 1, 7, 8], [])], []⟩
noncomputable def C_rix (fu : Nat) (l : FL) (f : BL) (lo len lo2 len2 : Nat) (rw rg rn nw : Int) (ov : Bool) : Cfg := Cfg.of tis F105 fu (List.length ([.fam 135 (.pair (.int .i64) (.pair (.int .i64) (.pair (.int .i64) .bool))) l f, .var [.ptr 2 0 0], .var [.slice 1 0 lo2 len2 none, .int .i64 rw, .int .i64 rg, .int .i64 rn, .int .i64 nw, .bool ov]] : List Blk)) Tryz.f105.ntmps
noncomputable def S.rix_b0 : Code := codeAt (bodyOf Tryz.f105) [1, 0, 1, 0, 0]
noncomputable def S.rix_s0 (l : FL) (f : BL) (lo len lo2 len2 : Nat) (rw rg rn nw : Int) (ov : Bool) (y0 : Int) : St := ⟨[(0, (.slice 1 0 (lo) (len) none)), (1, (.func 119 [(.ptr 1 (0) 0)])), (7, (.int .i64 (((len : Nat) : Int)))), (8, (.int .i64 (y0)))], [(.fam 135 (Cd.pair (Cd.int .i64) (Cd.pair (Cd.int .i64) (Cd.pair (Cd.int .i64) Cd.bool))) (l) (f)), (.var [(.ptr 2 (0) 0)]), (.var [(.slice 1 0 (lo2) (len2) none), (.int .i64 (rw)), (.int .i64 (rg)), (.int .i64 (rn)), (.int .i64 (nw)), (.bool (ov))])]⟩
noncomputable def S.rix_x0_0 (l : FL) (f : BL) (lo len lo2 len2 : Nat) (rw rg rn nw : Int) (ov : Bool) (z0 : Int) : St := ⟨[(4, (.int .i64 (z0)))], [(.fam 135 (Cd.pair (Cd.int .i64) (Cd.pair (Cd.int .i64) (Cd.pair (Cd.int .i64) Cd.bool))) (l) (f)), (.var [(.ptr 2 (0) 0)]), (.var [(.slice 1 0 (lo2) (len2) none), (.int .i64 (rw)), (.int .i64 (rg)), (.int .i64 (rn)), (.int .i64 (nw)), (.bool (ov))])]⟩
noncomputable def S.rix_x0_1 (l : FL) (f : BL) (lo len lo2 len2 : Nat) (rw rg rn nw : Int) (ov : Bool) (z0 : Int) (z1 : Bool) : St := ⟨[(0, (.slice 1 0 (lo) (len) none)), (1, (.func 119 [(.ptr 1 (0) 0)])), (7, (.int .i64 (((len : Nat) : Int)))), (8, (.int .i64 (z0))), (9, (.bool (z1)))], [(.fam 135 (Cd.pair (Cd.int .i64) (Cd.pair (Cd.int .i64) (Cd.pair (Cd.int .i64) Cd.bool))) (l) (f)), (.var [(.ptr 2 (0) 0)]), (.var [(.slice 1 0 (lo2) (len2) none), (.int .i64 (rw)), (.int .i64 (rg)), (.int .i64 (rn)), (.int .i64 (nw)), (.bool (ov))])]⟩
noncomputable def S.rix_g0 {R : Type} (l : FL) (f : BL) (lo len lo2 len2 : Nat) (rw rg rn nw : Int) (ov : Bool) (K : Ex → St → Option R) : ((Int) ⊕ (Int × Bool)) → Option R := (Sum.elim (fun z : Int => K (Ex.ret) (S.rix_x0_0 l f lo len lo2 len2 rw rg rn nw ov (z))) (fun z : Int × Bool => K (Ex.exit 0) (S.rix_x0_1 l f lo len lo2 len2 rw rg rn nw ov (z.1) (z.2))))
noncomputable def S.rix_gk {R : Type} (l : FL) (f : BL) (lo len lo2 len2 : Nat) (rw rg rn nw : Int) (ov : Bool) (k : AVal → List Blk → Option R) : (Int) → Option R := (fun v : Int => k (.int .i64 v) [.fam 135 (.pair (.int .i64) (.pair (.int .i64) (.pair (.int .i64) .bool))) l f, .var [.ptr 2 0 0], .var [.slice 1 0 lo2 len2 none, .int .i64 rw, .int .i64 rg, .int .i64 rn, .int .i64 nw, .bool ov]])
theorem S.rix_l0_k {R : Type} (fu : Nat) (l : FL) (f : BL) (lo len lo2 len2 : Nat) (rw rg rn nw : Int) (ov : Bool) (n : Nat) (K : Ex → St → Option R) (y0 : Int) : loopRun (C_rix fu l f lo len lo2 len2 rw rg rn nw ov) G87 S.rix_b0 (n + 1) (S.rix_s0 l f lo len lo2 len2 rw rg rn nw ov (y0)) K =
  (bif decide (y0 < ((len : Nat) : Int)) then
   bif inB y0 len then
   (optK (l[Int.toNat y0 + lo]?) fun o4 =>
   (optK (o4) fun o5 =>
   (optK (S.rgone l f o5 lo2 len2 rw rg rn nw ov) fun o6 =>
   bif o6 then
   K (Ex.ret) (S.rix_x0_0 l f lo len lo2 len2 rw rg rn nw ov (y0))
 else
   loopRun (C_rix fu l f lo len lo2 len2 rw rg rn nw ov) G87 S.rix_b0 n (S.rix_s0 l f lo len lo2 len2 rw rg rn nw ov (Go.IntKind.wrap .i64 (y0 + 1))) K)))
 else
   none
 else
   K (Ex.exit 0) (S.rix_x0_1 l f lo len lo2 len2 rw rg rn nw ov (y0) (decide (y0 < ((len : Nat) : Int))))) := by kernel_rfl
noncomputable def S.rix_l0 (fu : Nat) (l : FL) (f : BL) (lo len lo2 len2 : Nat) (rw rg rn nw : Int) (ov : Bool) : Nat → (Int) → Option ((Int) ⊕ (Int × Bool))
  | 0, _ => none
  | n + 1, y0 =>
    bif decide (y0 < ((len : Nat) : Int)) then
   bif inB y0 len then
   (optK (l[Int.toNat y0 + lo]?) fun o4 =>
   (optK (o4) fun o5 =>
   (optK (S.rgone l f o5 lo2 len2 rw rg rn nw ov) fun o6 =>
   bif o6 then
   some (.inl (y0))
 else
   (S.rix_l0 fu l f lo len lo2 len2 rw rg rn nw ov n) (Go.IntKind.wrap .i64 (y0 + 1)))))
 else
   none
 else
   some (.inr (y0, decide (y0 < ((len : Nat) : Int))))
theorem S.rix_l0_v {R : Type} (fu : Nat) (l : FL) (f : BL) (lo len lo2 len2 : Nat) (rw rg rn nw : Int) (ov : Bool) (K : Ex → St → Option R) : ∀ (n : Nat) (y0 : Int), loopRun (C_rix fu l f lo len lo2 len2 rw rg rn nw ov) G87 S.rix_b0 n (S.rix_s0 l f lo len lo2 len2 rw rg rn nw ov (y0)) K = oK (β := (Int) ⊕ (Int × Bool)) (S.rix_g0 l f lo len lo2 len2 rw rg rn nw ov K) (S.rix_l0 fu l f lo len lo2 len2 rw rg rn nw ov n y0)
  | 0, _ => rfl
  | n + 1, y0 => (S.rix_l0_k fu l f lo len lo2 len2 rw rg rn nw ov n K y0).trans (bif_lift (f := (oK (S.rix_g0 l f lo len lo2 len2 rw rg rn nw ov K))) (bif_lift (f := (oK (S.rix_g0 l f lo len lo2 len2 rw rg rn nw ov K))) (opt_lift fun o4 => (opt_lift fun o5 => (opt_lift fun o6 => (bif_lift (f := (oK (S.rix_g0 l f lo len lo2 len2 rw rg rn nw ov K))) rfl (S.rix_l0_v fu l f lo len lo2 len2 rw rg rn nw ov K n (Go.IntKind.wrap .i64 (y0 + 1))))))) rfl) rfl)
noncomputable def S.rix_a0_1 (fu : Nat) (l : FL) (f : BL) (lo len lo2 len2 : Nat) (rw rg rn nw : Int) (ov : Bool) (z0 : Int) (z1 : Bool) : Option (Int) :=
  some (-1)
theorem S.rix_a0_1_v {R : Type} (fu : Nat) (l : FL) (f : BL) (lo len lo2 len2 : Nat) (rw rg rn nw : Int) (ov : Bool) (z0 : Int) (z1 : Bool) (k : AVal → List Blk → Option R) : contOf (C_rix fu l f lo len lo2 len2 rw rg rn nw ov) G87 (bodyOf Tryz.f105) [1, 0, 1, 0] (retK tis F105 Tryz.f105 (List.length ([.fam 135 (.pair (.int .i64) (.pair (.int .i64) (.pair (.int .i64) .bool))) l f, .var [.ptr 2 0 0], .var [.slice 1 0 lo2 len2 none, .int .i64 rw, .int .i64 rg, .int .i64 rn, .int .i64 nw, .bool ov]] : List Blk)) k) (Ex.exit 0) (S.rix_x0_1 l f lo len lo2 len2 rw rg rn nw ov (z0) (z1)) = oK (S.rix_gk l f lo len lo2 len2 rw rg rn nw ov k) (S.rix_a0_1 fu l f lo len lo2 len2 rw rg rn nw ov z0 z1) :=
  Eq.trans (b := ((S.rix_gk l f lo len lo2 len2 rw rg rn nw ov k) (-1))) (by kernel_rfl) rfl
noncomputable def S.rix_a0_0 (fu : Nat) (l : FL) (f : BL) (lo len lo2 len2 : Nat) (rw rg rn nw : Int) (ov : Bool) (z0 : Int) : Option (Int) :=
  some (z0)
theorem S.rix_a0_0_v {R : Type} (fu : Nat) (l : FL) (f : BL) (lo len lo2 len2 : Nat) (rw rg rn nw : Int) (ov : Bool) (z0 : Int) (k : AVal → List Blk → Option R) : contOf (C_rix fu l f lo len lo2 len2 rw rg rn nw ov) G87 (bodyOf Tryz.f105) [1, 0, 1, 0] (retK tis F105 Tryz.f105 (List.length ([.fam 135 (.pair (.int .i64) (.pair (.int .i64) (.pair (.int .i64) .bool))) l f, .var [.ptr 2 0 0], .var [.slice 1 0 lo2 len2 none, .int .i64 rw, .int .i64 rg, .int .i64 rn, .int .i64 nw, .bool ov]] : List Blk)) k) (Ex.ret) (S.rix_x0_0 l f lo len lo2 len2 rw rg rn nw ov (z0)) = oK (S.rix_gk l f lo len lo2 len2 rw rg rn nw ov k) (S.rix_a0_0 fu l f lo len lo2 len2 rw rg rn nw ov z0) :=
  Eq.trans (b := ((S.rix_gk l f lo len lo2 len2 rw rg rn nw ov k) (z0))) (by kernel_rfl) rfl
noncomputable def S.rix_L {R : Type} (fu : Nat) (l : FL) (f : BL) (lo len lo2 len2 : Nat) (rw rg rn nw : Int) (ov : Bool) (k : AVal → List Blk → Option R) : Option R := fnEval tis F105 fu G87 Tryz.f105 [.slice 1 0 lo len none, .func 119 [.ptr 1 0 0]] [.fam 135 (.pair (.int .i64) (.pair (.int .i64) (.pair (.int .i64) .bool))) l f, .var [.ptr 2 0 0], .var [.slice 1 0 lo2 len2 none, .int .i64 rw, .int .i64 rg, .int .i64 rn, .int .i64 nw, .bool ov]] k
noncomputable def S.rix (fu : Nat) (l : FL) (f : BL) (lo len lo2 len2 : Nat) (rw rg rn nw : Int) (ov : Bool) : Option (Int) :=
  optK (S.rix_l0 fu l f lo len lo2 len2 rw rg rn nw ov fu (0)) (Sum.elim (fun z : Int => S.rix_a0_0 fu l f lo len lo2 len2 rw rg rn nw ov (z)) (fun z : Int × Bool => S.rix_a0_1 fu l f lo len lo2 len2 rw rg rn nw ov (z.1) (z.2)))
theorem S.rix_v {R : Type} (fu : Nat) (l : FL) (f : BL) (lo len lo2 len2 : Nat) (rw rg rn nw : Int) (ov : Bool) (k : AVal → List Blk → Option R) : S.rix_L fu l f lo len lo2 len2 rw rg rn nw ov k = oK (fun v : Int => k (.int .i64 v) [.fam 135 (.pair (.int .i64) (.pair (.int .i64) (.pair (.int .i64) .bool))) l f, .var [.ptr 2 0 0], .var [.slice 1 0 lo2 len2 none, .int .i64 rw, .int .i64 rg, .int .i64 rn, .int .i64 nw, .bool ov]]) (S.rix fu l f lo len lo2 len2 rw rg rn nw ov) :=
  Eq.trans (b := (loopRun (C_rix fu l f lo len lo2 len2 rw rg rn nw ov) G87 S.rix_b0 fu (S.rix_s0 l f lo len lo2 len2 rw rg rn nw ov (0)) (contOf (C_rix fu l f lo len lo2 len2 rw rg rn nw ov) G87 (bodyOf Tryz.f105) [1, 0, 1, 0] (retK tis F105 Tryz.f105 (List.length ([.fam 135 (.pair (.int .i64) (.pair (.int .i64) (.pair (.int .i64) .bool))) l f, .var [.ptr 2 0 0], .var [.slice 1 0 lo2 len2 none, .int .i64 rw, .int .i64 rg, .int .i64 rn, .int .i64 nw, .bool ov]] : List Blk)) k)))) (by kernel_rfl) (arr_lift (S.rix_l0_v fu l f lo len lo2 len2 rw rg rn nw ov (contOf (C_rix fu l f lo len lo2 len2 rw rg rn nw ov) G87 (bodyOf Tryz.f105) [1, 0, 1, 0] (retK tis F105 Tryz.f105 (List.length ([.fam 135 (.pair (.int .i64) (.pair (.int .i64) (.pair (.int .i64) .bool))) l f, .var [.ptr 2 0 0], .var [.slice 1 0 lo2 len2 none, .int .i64 rw, .int .i64 rg, .int .i64 rn, .int .i64 nw, .bool ov]] : List Blk)) k)) fu (0)) ((sum_lift (fun z => S.rix_a0_0_v fu l f lo len lo2 len2 rw rg rn nw ov (z) k) (fun z => S.rix_a0_1_v fu l f lo len lo2 len2 rw rg rn nw ov (z.1) (z.2) k))))
noncomputable def C_rix2 (fu : Nat) (l : FL) (f : BL) (lo len : Nat) (a : Int) : Cfg := Cfg.of tis F105 fu (List.length ([.fam 135 (.pair (.int .i64) (.pair (.int .i64) (.pair (.int .i64) .bool))) l f, .var [.int .i64 a]] : List Blk)) Tryz.f105.ntmps
noncomputable def S.rix2_b0 : Code := codeAt (bodyOf Tryz.f105) [1, 0, 1, 0, 0]
noncomputable def S.rix2_s0 (l : FL) (f : BL) (lo len : Nat) (a : Int) (y0 : Int) : St := ⟨[(0, (.slice 1 0 (lo) (len) none)), (1, (.func 106 [(.ptr 1 (0) 0)])), (7, (.int .i64 (((len : Nat) : Int)))), (8, (.int .i64 (y0)))], [(.fam 135 (Cd.pair (Cd.int .i64) (Cd.pair (Cd.int .i64) (Cd.pair (Cd.int .i64) Cd.bool))) (l) (f)), (.var [(.int .i64 (a))])]⟩
noncomputable def S.rix2_x0_0 (l : FL) (f : BL) (lo len : Nat) (a : Int) (z0 : Int) : St := ⟨[(4, (.int .i64 (z0)))], [(.fam 135 (Cd.pair (Cd.int .i64) (Cd.pair (Cd.int .i64) (Cd.pair (Cd.int .i64) Cd.bool))) (l) (f)), (.var [(.int .i64 (a))])]⟩
noncomputable def S.rix2_x0_1 (l : FL) (f : BL) (lo len : Nat) (a : Int) (z0 : Int) (z1 : Bool) : St := ⟨[(0, (.slice 1 0 (lo) (len) none)), (1, (.func 106 [(.ptr 1 (0) 0)])), (7, (.int .i64 (((len : Nat) : Int)))), (8, (.int .i64 (z0))), (9, (.bool (z1)))], [(.fam 135 (Cd.pair (Cd.int .i64) (Cd.pair (Cd.int .i64) (Cd.pair (Cd.int .i64) Cd.bool))) (l) (f)), (.var [(.int .i64 (a))])]⟩
noncomputable def S.rix2_g0 {R : Type} (l : FL) (f : BL) (lo len : Nat) (a : Int) (K : Ex → St → Option R) : ((Int) ⊕ (Int × Bool)) → Option R := (Sum.elim (fun z : Int => K (Ex.ret) (S.rix2_x0_0 l f lo len a (z))) (fun z : Int × Bool => K (Ex.exit 0) (S.rix2_x0_1 l f lo len a (z.1) (z.2))))
noncomputable def S.rix2_gk {R : Type} (l : FL) (f : BL) (lo len : Nat) (a : Int) (k : AVal → List Blk → Option R) : (Int) → Option R := (fun v : Int => k (.int .i64 v) [.fam 135 (.pair (.int .i64) (.pair (.int .i64) (.pair (.int .i64) .bool))) l f, .var [.int .i64 a]])
theorem S.rix2_l0_k {R : Type} (fu : Nat) (l : FL) (f : BL) (lo len : Nat) (a : Int) (n : Nat) (K : Ex → St → Option R) (y0 : Int) : loopRun (C_rix2 fu l f lo len a) G87 S.rix2_b0 (n + 1) (S.rix2_s0 l f lo len a (y0)) K =
  (bif decide (y0 < ((len : Nat) : Int)) then
   bif inB y0 len then
   (optK (l[Int.toNat y0 + lo]?) fun o4 =>
   (optK (o4) fun o5 =>
   (optK (S.rhere l f o5 a) fun o6 =>
   bif o6 then
   K (Ex.ret) (S.rix2_x0_0 l f lo len a (y0))
 else
   loopRun (C_rix2 fu l f lo len a) G87 S.rix2_b0 n (S.rix2_s0 l f lo len a (Go.IntKind.wrap .i64 (y0 + 1))) K)))
 else
   none
 else
   K (Ex.exit 0) (S.rix2_x0_1 l f lo len a (y0) (decide (y0 < ((len : Nat) : Int))))) := by kernel_rfl
noncomputable def S.rix2_l0 (fu : Nat) (l : FL) (f : BL) (lo len : Nat) (a : Int) : Nat → (Int) → Option ((Int) ⊕ (Int × Bool))
  | 0, _ => none
  | n + 1, y0 =>
    bif decide (y0 < ((len : Nat) : Int)) then
   bif inB y0 len then
   (optK (l[Int.toNat y0 + lo]?) fun o4 =>
   (optK (o4) fun o5 =>
   (optK (S.rhere l f o5 a) fun o6 =>
   bif o6 then
   some (.inl (y0))
 else
   (S.rix2_l0 fu l f lo len a n) (Go.IntKind.wrap .i64 (y0 + 1)))))
 else
   none
 else
   some (.inr (y0, decide (y0 < ((len : Nat) : Int))))
theorem S.rix2_l0_v {R : Type} (fu : Nat) (l : FL) (f : BL) (lo len : Nat) (a : Int) (K : Ex → St → Option R) : ∀ (n : Nat) (y0 : Int), loopRun (C_rix2 fu l f lo len a) G87 S.rix2_b0 n (S.rix2_s0 l f lo len a (y0)) K = oK (β := (Int) ⊕ (Int × Bool)) (S.rix2_g0 l f lo len a K) (S.rix2_l0 fu l f lo len a n y0)
  | 0, _ => rfl
  | n + 1, y0 => (S.rix2_l0_k fu l f lo len a n K y0).trans (bif_lift (f := (oK (S.rix2_g0 l f lo len a K))) (bif_lift (f := (oK (S.rix2_g0 l f lo len a K))) (opt_lift fun o4 => (opt_lift fun o5 => (opt_lift fun o6 => (bif_lift (f := (oK (S.rix2_g0 l f lo len a K))) rfl (S.rix2_l0_v fu l f lo len a K n (Go.IntKind.wrap .i64 (y0 + 1))))))) rfl) rfl)
noncomputable def S.rix2_a0_1 (fu : Nat) (l : FL) (f : BL) (lo len : Nat) (a : Int) (z0 : Int) (z1 : Bool) : Option (Int) :=
  some (-1)
theorem S.rix2_a0_1_v {R : Type} (fu : Nat) (l : FL) (f : BL) (lo len : Nat) (a : Int) (z0 : Int) (z1 : Bool) (k : AVal → List Blk → Option R) : contOf (C_rix2 fu l f lo len a) G87 (bodyOf Tryz.f105) [1, 0, 1, 0] (retK tis F105 Tryz.f105 (List.length ([.fam 135 (.pair (.int .i64) (.pair (.int .i64) (.pair (.int .i64) .bool))) l f, .var [.int .i64 a]] : List Blk)) k) (Ex.exit 0) (S.rix2_x0_1 l f lo len a (z0) (z1)) = oK (S.rix2_gk l f lo len a k) (S.rix2_a0_1 fu l f lo len a z0 z1) :=
  Eq.trans (b := ((S.rix2_gk l f lo len a k) (-1))) (by kernel_rfl) rfl
noncomputable def S.rix2_a0_0 (fu : Nat) (l : FL) (f : BL) (lo len : Nat) (a : Int) (z0 : Int) : Option (Int) :=
  some (z0)
theorem S.rix2_a0_0_v {R : Type} (fu : Nat) (l : FL) (f : BL) (lo len : Nat) (a : Int) (z0 : Int) (k : AVal → List Blk → Option R) : contOf (C_rix2 fu l f lo len a) G87 (bodyOf Tryz.f105) [1, 0, 1, 0] (retK tis F105 Tryz.f105 (List.length ([.fam 135 (.pair (.int .i64) (.pair (.int .i64) (.pair (.int .i64) .bool))) l f, .var [.int .i64 a]] : List Blk)) k) (Ex.ret) (S.rix2_x0_0 l f lo len a (z0)) = oK (S.rix2_gk l f lo len a k) (S.rix2_a0_0 fu l f lo len a z0) :=
  Eq.trans (b := ((S.rix2_gk l f lo len a k) (z0))) (by kernel_rfl) rfl
noncomputable def S.rix2_L {R : Type} (fu : Nat) (l : FL) (f : BL) (lo len : Nat) (a : Int) (k : AVal → List Blk → Option R) : Option R := fnEval tis F105 fu G87 Tryz.f105 [.slice 1 0 lo len none, .func 106 [.ptr 1 0 0]] [.fam 135 (.pair (.int .i64) (.pair (.int .i64) (.pair (.int .i64) .bool))) l f, .var [.int .i64 a]] k
noncomputable def S.rix2 (fu : Nat) (l : FL) (f : BL) (lo len : Nat) (a : Int) : Option (Int) :=
  optK (S.rix2_l0 fu l f lo len a fu (0)) (Sum.elim (fun z : Int => S.rix2_a0_0 fu l f lo len a (z)) (fun z : Int × Bool => S.rix2_a0_1 fu l f lo len a (z.1) (z.2)))
theorem S.rix2_v {R : Type} (fu : Nat) (l : FL) (f : BL) (lo len : Nat) (a : Int) (k : AVal → List Blk → Option R) : S.rix2_L fu l f lo len a k = oK (fun v : Int => k (.int .i64 v) [.fam 135 (.pair (.int .i64) (.pair (.int .i64) (.pair (.int .i64) .bool))) l f, .var [.int .i64 a]]) (S.rix2 fu l f lo len a) :=
  Eq.trans (b := (loopRun (C_rix2 fu l f lo len a) G87 S.rix2_b0 fu (S.rix2_s0 l f lo len a (0)) (contOf (C_rix2 fu l f lo len a) G87 (bodyOf Tryz.f105) [1, 0, 1, 0] (retK tis F105 Tryz.f105 (List.length ([.fam 135 (.pair (.int .i64) (.pair (.int .i64) (.pair (.int .i64) .bool))) l f, .var [.int .i64 a]] : List Blk)) k)))) (by kernel_rfl) (arr_lift (S.rix2_l0_v fu l f lo len a (contOf (C_rix2 fu l f lo len a) G87 (bodyOf Tryz.f105) [1, 0, 1, 0] (retK tis F105 Tryz.f105 (List.length ([.fam 135 (.pair (.int .i64) (.pair (.int .i64) (.pair (.int .i64) .bool))) l f, .var [.int .i64 a]] : List Blk)) k)) fu (0)) ((sum_lift (fun z => S.rix2_a0_0_v fu l f lo len a (z) k) (fun z => S.rix2_a0_1_v fu l f lo len a (z.1) (z.2) k))))
noncomputable def C_dix (fu : Nat) (l : WL) (lo len : Nat) (t : Int) : Cfg := Cfg.of tis F105 fu (List.length ([.rows (.box 115 (.pair (.int .i64) (.int .i64))) l false, .var [.int .i64 t]] : List Blk)) Tryz.f105.ntmps
noncomputable def S.dix_b0 : Code := codeAt (bodyOf Tryz.f105) [1, 0, 1, 0, 0]
noncomputable def S.dix_s0 (l : WL) (lo len : Nat) (t : Int) (y0 : Int) : St := ⟨[(0, (.slice 1 0 (lo) (len) none)), (1, (.func 87 [(.ptr 1 (0) 0)])), (7, (.int .i64 (((len : Nat) : Int)))), (8, (.int .i64 (y0)))], [(.rows (Cd.box 115 (Cd.pair (Cd.int .i64) (Cd.int .i64))) (l) false), (.var [(.int .i64 (t))])]⟩
noncomputable def S.dix_x0_0 (l : WL) (lo len : Nat) (t : Int) (z0 : Int) : St := ⟨[(4, (.int .i64 (z0)))], [(.rows (Cd.box 115 (Cd.pair (Cd.int .i64) (Cd.int .i64))) (l) false), (.var [(.int .i64 (t))])]⟩
noncomputable def S.dix_x0_1 (l : WL) (lo len : Nat) (t : Int) (z0 : Int) (z1 : Bool) : St := ⟨[(0, (.slice 1 0 (lo) (len) none)), (1, (.func 87 [(.ptr 1 (0) 0)])), (7, (.int .i64 (((len : Nat) : Int)))), (8, (.int .i64 (z0))), (9, (.bool (z1)))], [(.rows (Cd.box 115 (Cd.pair (Cd.int .i64) (Cd.int .i64))) (l) false), (.var [(.int .i64 (t))])]⟩
noncomputable def S.dix_g0 {R : Type} (l : WL) (lo len : Nat) (t : Int) (K : Ex → St → Option R) : ((Int) ⊕ (Int × Bool)) → Option R := (Sum.elim (fun z : Int => K (Ex.ret) (S.dix_x0_0 l lo len t (z))) (fun z : Int × Bool => K (Ex.exit 0) (S.dix_x0_1 l lo len t (z.1) (z.2))))
noncomputable def S.dix_gk {R : Type} (l : WL) (lo len : Nat) (t : Int) (k : AVal → List Blk → Option R) : (Int) → Option R := (fun v : Int => k (.int .i64 v) [.rows (.box 115 (.pair (.int .i64) (.int .i64))) l false, .var [.int .i64 t]])
theorem S.dix_l0_k {R : Type} (fu : Nat) (l : WL) (lo len : Nat) (t : Int) (n : Nat) (K : Ex → St → Option R) (y0 : Int) : loopRun (C_dix fu l lo len t) G87 S.dix_b0 (n + 1) (S.dix_s0 l lo len t (y0)) K =
  (bif decide (y0 < ((len : Nat) : Int)) then
   bif inB y0 len then
   (optK (l[Int.toNat y0 + lo]?) fun o4 =>
   (optC (o4) (K (Ex.ret) (S.dix_x0_0 l lo len t (y0))) fun o5 =>
   bif S.dold o5.1 o5.2 t then
   K (Ex.ret) (S.dix_x0_0 l lo len t (y0))
 else
   loopRun (C_dix fu l lo len t) G87 S.dix_b0 n (S.dix_s0 l lo len t (Go.IntKind.wrap .i64 (y0 + 1))) K))
 else
   none
 else
   K (Ex.exit 0) (S.dix_x0_1 l lo len t (y0) (decide (y0 < ((len : Nat) : Int))))) := by kernel_rfl
noncomputable def S.dix_l0 (fu : Nat) (l : WL) (lo len : Nat) (t : Int) : Nat → (Int) → Option ((Int) ⊕ (Int × Bool))
  | 0, _ => none
  | n + 1, y0 =>
    bif decide (y0 < ((len : Nat) : Int)) then
   bif inB y0 len then
   (optK (l[Int.toNat y0 + lo]?) fun o4 =>
   (optC (o4) (some (.inl (y0))) fun o5 =>
   bif S.dold o5.1 o5.2 t then
   some (.inl (y0))
 else
   (S.dix_l0 fu l lo len t n) (Go.IntKind.wrap .i64 (y0 + 1))))
 else
   none
 else
   some (.inr (y0, decide (y0 < ((len : Nat) : Int))))
theorem S.dix_l0_v {R : Type} (fu : Nat) (l : WL) (lo len : Nat) (t : Int) (K : Ex → St → Option R) : ∀ (n : Nat) (y0 : Int), loopRun (C_dix fu l lo len t) G87 S.dix_b0 n (S.dix_s0 l lo len t (y0)) K = oK (β := (Int) ⊕ (Int × Bool)) (S.dix_g0 l lo len t K) (S.dix_l0 fu l lo len t n y0)
  | 0, _ => rfl
  | n + 1, y0 => (S.dix_l0_k fu l lo len t n K y0).trans (bif_lift (f := (oK (S.dix_g0 l lo len t K))) (bif_lift (f := (oK (S.dix_g0 l lo len t K))) (opt_lift fun o4 => (optC_lift (f := (oK (S.dix_g0 l lo len t K))) rfl fun o5 => (bif_lift (f := (oK (S.dix_g0 l lo len t K))) rfl (S.dix_l0_v fu l lo len t K n (Go.IntKind.wrap .i64 (y0 + 1)))))) rfl) rfl)
noncomputable def S.dix_a0_1 (fu : Nat) (l : WL) (lo len : Nat) (t : Int) (z0 : Int) (z1 : Bool) : Option (Int) :=
  some (-1)
theorem S.dix_a0_1_v {R : Type} (fu : Nat) (l : WL) (lo len : Nat) (t : Int) (z0 : Int) (z1 : Bool) (k : AVal → List Blk → Option R) : contOf (C_dix fu l lo len t) G87 (bodyOf Tryz.f105) [1, 0, 1, 0] (retK tis F105 Tryz.f105 (List.length ([.rows (.box 115 (.pair (.int .i64) (.int .i64))) l false, .var [.int .i64 t]] : List Blk)) k) (Ex.exit 0) (S.dix_x0_1 l lo len t (z0) (z1)) = oK (S.dix_gk l lo len t k) (S.dix_a0_1 fu l lo len t z0 z1) :=
  Eq.trans (b := ((S.dix_gk l lo len t k) (-1))) (by kernel_rfl) rfl
noncomputable def S.dix_a0_0 (fu : Nat) (l : WL) (lo len : Nat) (t : Int) (z0 : Int) : Option (Int) :=
  some (z0)
theorem S.dix_a0_0_v {R : Type} (fu : Nat) (l : WL) (lo len : Nat) (t : Int) (z0 : Int) (k : AVal → List Blk → Option R) : contOf (C_dix fu l lo len t) G87 (bodyOf Tryz.f105) [1, 0, 1, 0] (retK tis F105 Tryz.f105 (List.length ([.rows (.box 115 (.pair (.int .i64) (.int .i64))) l false, .var [.int .i64 t]] : List Blk)) k) (Ex.ret) (S.dix_x0_0 l lo len t (z0)) = oK (S.dix_gk l lo len t k) (S.dix_a0_0 fu l lo len t z0) :=
  Eq.trans (b := ((S.dix_gk l lo len t k) (z0))) (by kernel_rfl) rfl
noncomputable def S.dix_L {R : Type} (fu : Nat) (l : WL) (lo len : Nat) (t : Int) (k : AVal → List Blk → Option R) : Option R := fnEval tis F105 fu G87 Tryz.f105 [.slice 1 0 lo len none, .func 87 [.ptr 1 0 0]] [.rows (.box 115 (.pair (.int .i64) (.int .i64))) l false, .var [.int .i64 t]] k
noncomputable def S.dix (fu : Nat) (l : WL) (lo len : Nat) (t : Int) : Option (Int) :=
  optK (S.dix_l0 fu l lo len t fu (0)) (Sum.elim (fun z : Int => S.dix_a0_0 fu l lo len t (z)) (fun z : Int × Bool => S.dix_a0_1 fu l lo len t (z.1) (z.2)))
theorem S.dix_v {R : Type} (fu : Nat) (l : WL) (lo len : Nat) (t : Int) (k : AVal → List Blk → Option R) : S.dix_L fu l lo len t k = oK (fun v : Int => k (.int .i64 v) [.rows (.box 115 (.pair (.int .i64) (.int .i64))) l false, .var [.int .i64 t]]) (S.dix fu l lo len t) :=
  Eq.trans (b := (loopRun (C_dix fu l lo len t) G87 S.dix_b0 fu (S.dix_s0 l lo len t (0)) (contOf (C_dix fu l lo len t) G87 (bodyOf Tryz.f105) [1, 0, 1, 0] (retK tis F105 Tryz.f105 (List.length ([.rows (.box 115 (.pair (.int .i64) (.int .i64))) l false, .var [.int .i64 t]] : List Blk)) k)))) (by kernel_rfl) (arr_lift (S.dix_l0_v fu l lo len t (contOf (C_dix fu l lo len t) G87 (bodyOf Tryz.f105) [1, 0, 1, 0] (retK tis F105 Tryz.f105 (List.length ([.rows (.box 115 (.pair (.int .i64) (.int .i64))) l false, .var [.int .i64 t]] : List Blk)) k)) fu (0)) ((sum_lift (fun z => S.dix_a0_0_v fu l lo len t (z) k) (fun z => S.dix_a0_1_v fu l lo len t (z.1) (z.2) k))))
noncomputable def H105 : Hnd := fun R args σ k => match args, σ with
  | [.slice 1 0 lo len none, .func 119 [.ptr 1 0 0]], [.fam 135 (.pair (.int .i64) (.pair (.int .i64) (.pair (.int .i64) .bool))) l f, .var [.ptr 2 0 0], .var [.slice 1 0 lo2 len2 none, .int .i64 rw, .int .i64 rg, .int .i64 rn, .int .i64 nw, .bool ov]] => oK (fun v : Int => k (.int .i64 v) []) (S.rix 100000 l f lo len lo2 len2 rw rg rn nw ov)
  | [.slice 1 0 lo len none, .func 106 [.ptr 1 0 0]], [.fam 135 (.pair (.int .i64) (.pair (.int .i64) (.pair (.int .i64) .bool))) l f, .var [.int .i64 a]] => oK (fun v : Int => k (.int .i64 v) []) (S.rix2 100000 l f lo len a)
  | [.slice 1 0 lo len none, .func 87 [.ptr 1 0 0]], [.rows (.box 115 (.pair (.int .i64) (.int .i64))) l false, .var [.int .i64 t]] => oK (fun v : Int => k (.int .i64 v) []) (S.dix 100000 l lo len t)
  | _, _ => none
theorem H105_ok : HndOk Tryz.prog 105 H105 := hnd_ok_pure tis tisOk mixOk G87_ok F105 Tryz.func105 rfl (by
  intro R args σ k r h
  unfold H105 at h
  split at h
  · rename_i lo len l f lo2 len2 rw rg rn nw ov; exact ⟨100000, (S.rix_v 100000 l f lo len lo2 len2 rw rg rn nw ov _).trans ((congrArg (fun g9 => oK g9 (S.rix 100000 l f lo len lo2 len2 rw rg rn nw ov)) (funext fun v => if_pos rfl)).trans h)⟩
  · rename_i lo len l f a; exact ⟨100000, (S.rix2_v 100000 l f lo len a _).trans ((congrArg (fun g9 => oK g9 (S.rix2 100000 l f lo len a)) (funext fun v => if_pos rfl)).trans h)⟩
  · rename_i lo len l t; exact ⟨100000, (S.dix_v 100000 l lo len t _).trans ((congrArg (fun g9 => oK g9 (S.dix 100000 l lo len t)) (funext fun v => if_pos rfl)).trans h)⟩
  · cases h)
noncomputable def G105 : Env := Env.add 105 H105 G87
theorem G105_ok : EnvOk Tryz.prog G105 := envAdd_ok H105_ok G87_ok

/-! slices.DeleteFunc[[]any,any] -/
def F86 : FCfg := ⟨keepAt [(0, [0, 1]), (1, [0, 1, 5]), (2, [0, 1, 5, 12]), (3, [4]), (4, [0, 1, 5, 6]), (5, [0, 1, 5, 6, 19]), (6, [0, 1, 5, 6]), (7, [0, 1, 5, 6, 7]), (8, [0, 1, 5, 6, 7, 29]), (9, [0, 1, 5, 6]), (10, [0, 1, 5, 6]), (11, [0, 5]), (12, [4])], loopAt [(5, [0, 1, 5, 6], [])], []⟩
noncomputable def C_rdel (fu : Nat) (l : FL) (f : BL) (lo len lo2 len2 : Nat) (rw rg rn nw : Int) (ov : Bool) : Cfg := Cfg.of tis F86 fu (List.length ([.fam 135 (.pair (.int .i64) (.pair (.int .i64) (.pair (.int .i64) .bool))) l f, .var [.ptr 2 0 0], .var [.slice 1 0 lo2 len2 none, .int .i64 rw, .int .i64 rg, .int .i64 rn, .int .i64 nw, .bool ov]] : List Blk)) Tryz.f86.ntmps
noncomputable def S.rdel_b0 : Code := codeAt (bodyOf Tryz.f86) [1, 1, 1, 0, 1, 0, 0]
noncomputable def S.rdel_s0 (l : FL) (f : BL) (lo len lo2 len2 : Nat) (rw rg rn nw : Int) (ov : Bool) (y0 : Int) (y1 : Int) (y2 : List (Option Nat)) : St := ⟨[(0, (.slice 1 0 (lo) (len) none)), (1, (.func 119 [(.ptr 1 (0) 0)])), (5, (.int .i64 (y0))), (6, (.int .i64 (y1)))], [(.fam 135 (Cd.pair (Cd.int .i64) (Cd.pair (Cd.int .i64) (Cd.pair (Cd.int .i64) Cd.bool))) (y2) (f)), (.var [(.ptr 2 (0) 0)]), (.var [(.slice 1 0 (lo2) (len2) none), (.int .i64 (rw)), (.int .i64 (rg)), (.int .i64 (rn)), (.int .i64 (nw)), (.bool (ov))])]⟩
noncomputable def S.rdel_x0_0 (l : FL) (f : BL) (lo len lo2 len2 : Nat) (rw rg rn nw : Int) (ov : Bool) (z0 : Int) (z1 : Int) (z2 : Bool) (z3 : List (Option Nat)) : St := ⟨[(0, (.slice 1 0 (lo) (len) none)), (1, (.func 119 [(.ptr 1 (0) 0)])), (5, (.int .i64 (z0))), (6, (.int .i64 (z1))), (19, (.bool (z2)))], [(.fam 135 (Cd.pair (Cd.int .i64) (Cd.pair (Cd.int .i64) (Cd.pair (Cd.int .i64) Cd.bool))) (z3) (f)), (.var [(.ptr 2 (0) 0)]), (.var [(.slice 1 0 (lo2) (len2) none), (.int .i64 (rw)), (.int .i64 (rg)), (.int .i64 (rn)), (.int .i64 (nw)), (.bool (ov))])]⟩
noncomputable def S.rdel_g0 {R : Type} (l : FL) (f : BL) (lo len lo2 len2 : Nat) (rw rg rn nw : Int) (ov : Bool) (K : Ex → St → Option R) : ((Int × Int × Bool × List (Option Nat))) → Option R := (fun z : Int × Int × Bool × List (Option Nat) => K (Ex.exit 0) (S.rdel_x0_0 l f lo len lo2 len2 rw rg rn nw ov (z.1) (z.2.1) (z.2.2.1) (z.2.2.2)))
noncomputable def S.rdel_gk {R : Type} (l : FL) (f : BL) (lo len lo2 len2 : Nat) (rw rg rn nw : Int) (ov : Bool) (k : AVal → List Blk → Option R) : (Nat × Nat × List (Option Nat) × BL × Nat × Nat × Int × Int × Int × Int × Bool) → Option R := (fun v : Nat × Nat × List (Option Nat) × BL × Nat × Nat × Int × Int × Int × Int × Bool => k (.slice 1 0 v.1 v.2.1 none) [(.fam 135 (Cd.pair (Cd.int .i64) (Cd.pair (Cd.int .i64) (Cd.pair (Cd.int .i64) Cd.bool))) v.2.2.1 v.2.2.2.1), (.var [(.ptr 2 (0) 0)]), (.var [(.slice 1 0 v.2.2.2.2.1 v.2.2.2.2.2.1 none), (.int .i64 v.2.2.2.2.2.2.1), (.int .i64 v.2.2.2.2.2.2.2.1), (.int .i64 v.2.2.2.2.2.2.2.2.1), (.int .i64 v.2.2.2.2.2.2.2.2.2.1), (.bool v.2.2.2.2.2.2.2.2.2.2)])])
theorem S.rdel_l0_k {R : Type} (fu : Nat) (l : FL) (f : BL) (lo len lo2 len2 : Nat) (rw rg rn nw : Int) (ov : Bool) (n : Nat) (K : Ex → St → Option R) (y0 : Int) (y1 : Int) (y2 : List (Option Nat)) : loopRun (C_rdel fu l f lo len lo2 len2 rw rg rn nw ov) G105 S.rdel_b0 (n + 1) (S.rdel_s0 l f lo len lo2 len2 rw rg rn nw ov (y0) (y1) (y2)) K =
  (bif decide (y1 < ((len : Nat) : Int)) then
   bif inB y1 len then
   (optK (y2[Int.toNat y1 + lo]?) fun o4 =>
   (optK (o4) fun o5 =>
   (optK (S.rgone y2 f o5 lo2 len2 rw rg rn nw ov) fun o6 =>
   bif !o6 then
   bif inB y0 len then
   bif true && Nat.blt (Int.toNat y0 + lo) (List.length y2) then
   loopRun (C_rdel fu l f lo len lo2 len2 rw rg rn nw ov) G105 S.rdel_b0 n (S.rdel_s0 l f lo len lo2 len2 rw rg rn nw ov (Go.IntKind.wrap .i64 (y0 + 1)) (Go.IntKind.wrap .i64 (y1 + 1)) (List.set y2 (Int.toNat y0 + lo) (Option.some o5))) K
 else
   none
 else
   none
 else
   loopRun (C_rdel fu l f lo len lo2 len2 rw rg rn nw ov) G105 S.rdel_b0 n (S.rdel_s0 l f lo len lo2 len2 rw rg rn nw ov (y0) (Go.IntKind.wrap .i64 (y1 + 1)) (y2)) K)))
 else
   none
 else
   K (Ex.exit 0) (S.rdel_x0_0 l f lo len lo2 len2 rw rg rn nw ov (y0) (y1) (decide (y1 < ((len : Nat) : Int))) (y2))) := by kernel_rfl
noncomputable def S.rdel_l0 (fu : Nat) (l : FL) (f : BL) (lo len lo2 len2 : Nat) (rw rg rn nw : Int) (ov : Bool) : Nat → (Int) → (Int) → (List (Option Nat)) → Option ((Int × Int × Bool × List (Option Nat)))
  | 0, _, _, _ => none
  | n + 1, y0, y1, y2 =>
    bif decide (y1 < ((len : Nat) : Int)) then
   bif inB y1 len then
   (optK (y2[Int.toNat y1 + lo]?) fun o4 =>
   (optK (o4) fun o5 =>
   (optK (S.rgone y2 f o5 lo2 len2 rw rg rn nw ov) fun o6 =>
   bif !o6 then
   bif inB y0 len then
   bif true && Nat.blt (Int.toNat y0 + lo) (List.length y2) then
   (S.rdel_l0 fu l f lo len lo2 len2 rw rg rn nw ov n) (Go.IntKind.wrap .i64 (y0 + 1)) (Go.IntKind.wrap .i64 (y1 + 1)) (List.set y2 (Int.toNat y0 + lo) (Option.some o5))
 else
   none
 else
   none
 else
   (S.rdel_l0 fu l f lo len lo2 len2 rw rg rn nw ov n) (y0) (Go.IntKind.wrap .i64 (y1 + 1)) (y2))))
 else
   none
 else
   some (y0, y1, decide (y1 < ((len : Nat) : Int)), y2)
theorem S.rdel_l0_v {R : Type} (fu : Nat) (l : FL) (f : BL) (lo len lo2 len2 : Nat) (rw rg rn nw : Int) (ov : Bool) (K : Ex → St → Option R) : ∀ (n : Nat) (y0 : Int) (y1 : Int) (y2 : List (Option Nat)), loopRun (C_rdel fu l f lo len lo2 len2 rw rg rn nw ov) G105 S.rdel_b0 n (S.rdel_s0 l f lo len lo2 len2 rw rg rn nw ov (y0) (y1) (y2)) K = oK (β := (Int × Int × Bool × List (Option Nat))) (S.rdel_g0 l f lo len lo2 len2 rw rg rn nw ov K) (S.rdel_l0 fu l f lo len lo2 len2 rw rg rn nw ov n y0 y1 y2)
  | 0, _, _, _ => rfl
  | n + 1, y0, y1, y2 => (S.rdel_l0_k fu l f lo len lo2 len2 rw rg rn nw ov n K y0 y1 y2).trans (bif_lift (f := (oK (S.rdel_g0 l f lo len lo2 len2 rw rg rn nw ov K))) (bif_lift (f := (oK (S.rdel_g0 l f lo len lo2 len2 rw rg rn nw ov K))) (opt_lift fun o4 => (opt_lift fun o5 => (opt_lift fun o6 => (bif_lift (f := (oK (S.rdel_g0 l f lo len lo2 len2 rw rg rn nw ov K))) (bif_lift (f := (oK (S.rdel_g0 l f lo len lo2 len2 rw rg rn nw ov K))) (bif_lift (f := (oK (S.rdel_g0 l f lo len lo2 len2 rw rg rn nw ov K))) (S.rdel_l0_v fu l f lo len lo2 len2 rw rg rn nw ov K n (Go.IntKind.wrap .i64 (y0 + 1)) (Go.IntKind.wrap .i64 (y1 + 1)) (List.set y2 (Int.toNat y0 + lo) (Option.some o5))) rfl) rfl) (S.rdel_l0_v fu l f lo len lo2 len2 rw rg rn nw ov K n (y0) (Go.IntKind.wrap .i64 (y1 + 1)) (y2)))))) rfl) rfl)
noncomputable def S.rdel_a0_0 (fu : Nat) (l : FL) (f : BL) (lo len lo2 len2 : Nat) (rw rg rn nw : Int) (ov : Bool) (z0 : Int) (z1 : Int) (z2 : Bool) (z3 : List (Option Nat)) : Option (Nat × Nat × List (Option Nat) × BL × Nat × Nat × Int × Int × Int × Int × Bool) :=
  bif decide (0 ≤ z0 ∧ z0 ≤ ((len : Nat) : Int)) then
   bif Nat.ble (Int.toNat z0 + lo + (len - Int.toNat z0)) (List.length z3) then
   bif decide (0 ≤ z0 ∧ z0 ≤ ((len : Nat) : Int)) then
   some (lo, Int.toNat z0, List.take (Int.toNat z0 + lo) z3 ++ fillRows Option.none (len - Int.toNat z0) (List.drop (Int.toNat z0 + lo) z3), f, lo2, len2, rw, rg, rn, nw, ov)
 else
   none
 else
   none
 else
   none
theorem S.rdel_a0_0_v {R : Type} (fu : Nat) (l : FL) (f : BL) (lo len lo2 len2 : Nat) (rw rg rn nw : Int) (ov : Bool) (z0 : Int) (z1 : Int) (z2 : Bool) (z3 : List (Option Nat)) (k : AVal → List Blk → Option R) : contOf (C_rdel fu l f lo len lo2 len2 rw rg rn nw ov) G105 (bodyOf Tryz.f86) [1, 1, 1, 0, 1, 0] (retK tis F86 Tryz.f86 (List.length ([.fam 135 (.pair (.int .i64) (.pair (.int .i64) (.pair (.int .i64) .bool))) l f, .var [.ptr 2 0 0], .var [.slice 1 0 lo2 len2 none, .int .i64 rw, .int .i64 rg, .int .i64 rn, .int .i64 nw, .bool ov]] : List Blk)) k) (Ex.exit 0) (S.rdel_x0_0 l f lo len lo2 len2 rw rg rn nw ov (z0) (z1) (z2) (z3)) = oK (S.rdel_gk l f lo len lo2 len2 rw rg rn nw ov k) (S.rdel_a0_0 fu l f lo len lo2 len2 rw rg rn nw ov z0 z1 z2 z3) :=
  Eq.trans (b := (bif decide (0 ≤ z0 ∧ z0 ≤ ((len : Nat) : Int)) then
   bif Nat.ble (Int.toNat z0 + lo + (len - Int.toNat z0)) (List.length z3) then
   bif decide (0 ≤ z0 ∧ z0 ≤ ((len : Nat) : Int)) then
   (S.rdel_gk l f lo len lo2 len2 rw rg rn nw ov k) (lo, Int.toNat z0, List.take (Int.toNat z0 + lo) z3 ++ fillRows Option.none (len - Int.toNat z0) (List.drop (Int.toNat z0 + lo) z3), f, lo2, len2, rw, rg, rn, nw, ov)
 else
   none
 else
   none
 else
   none)) (by kernel_rfl) (bif_lift (f := (oK (S.rdel_gk l f lo len lo2 len2 rw rg rn nw ov k))) (bif_lift (f := (oK (S.rdel_gk l f lo len lo2 len2 rw rg rn nw ov k))) (bif_lift (f := (oK (S.rdel_gk l f lo len lo2 len2 rw rg rn nw ov k))) rfl rfl) rfl) rfl)
noncomputable def S.rdel_L {R : Type} (fu : Nat) (l : FL) (f : BL) (lo len lo2 len2 : Nat) (rw rg rn nw : Int) (ov : Bool) (k : AVal → List Blk → Option R) : Option R := fnEval tis F86 fu G105 Tryz.f86 [.slice 1 0 lo len none, .func 119 [.ptr 1 0 0]] [.fam 135 (.pair (.int .i64) (.pair (.int .i64) (.pair (.int .i64) .bool))) l f, .var [.ptr 2 0 0], .var [.slice 1 0 lo2 len2 none, .int .i64 rw, .int .i64 rg, .int .i64 rn, .int .i64 nw, .bool ov]] k
noncomputable def S.rdel (fu : Nat) (l : FL) (f : BL) (lo len lo2 len2 : Nat) (rw rg rn nw : Int) (ov : Bool) : Option (Nat × Nat × List (Option Nat) × BL × Nat × Nat × Int × Int × Int × Int × Bool) :=
  (optK (S.rix 100000 l f lo len lo2 len2 rw rg rn nw ov) fun o2 =>
   bif decide (o2 = -1) then
   some (lo, len, l, f, lo2, len2, rw, rg, rn, nw, ov)
 else
   optK (S.rdel_l0 fu l f lo len lo2 len2 rw rg rn nw ov fu (o2) (Go.IntKind.wrap .i64 (o2 + 1)) (l)) (fun z : Int × Int × Bool × List (Option Nat) => S.rdel_a0_0 fu l f lo len lo2 len2 rw rg rn nw ov (z.1) (z.2.1) (z.2.2.1) (z.2.2.2)))
theorem S.rdel_v {R : Type} (fu : Nat) (l : FL) (f : BL) (lo len lo2 len2 : Nat) (rw rg rn nw : Int) (ov : Bool) (k : AVal → List Blk → Option R) : S.rdel_L fu l f lo len lo2 len2 rw rg rn nw ov k = oK (S.rdel_gk l f lo len lo2 len2 rw rg rn nw ov k) (S.rdel fu l f lo len lo2 len2 rw rg rn nw ov) :=
  Eq.trans (b := ((optK (S.rix 100000 l f lo len lo2 len2 rw rg rn nw ov) fun o2 =>
   bif decide (o2 = -1) then
   (S.rdel_gk l f lo len lo2 len2 rw rg rn nw ov k) (lo, len, l, f, lo2, len2, rw, rg, rn, nw, ov)
 else
   loopRun (C_rdel fu l f lo len lo2 len2 rw rg rn nw ov) G105 S.rdel_b0 fu (S.rdel_s0 l f lo len lo2 len2 rw rg rn nw ov (o2) (Go.IntKind.wrap .i64 (o2 + 1)) (l)) (contOf (C_rdel fu l f lo len lo2 len2 rw rg rn nw ov) G105 (bodyOf Tryz.f86) [1, 1, 1, 0, 1, 0] (retK tis F86 Tryz.f86 (List.length ([.fam 135 (.pair (.int .i64) (.pair (.int .i64) (.pair (.int .i64) .bool))) l f, .var [.ptr 2 0 0], .var [.slice 1 0 lo2 len2 none, .int .i64 rw, .int .i64 rg, .int .i64 rn, .int .i64 nw, .bool ov]] : List Blk)) k))))) (by kernel_rfl) (opt_lift fun o2 => (bif_lift (f := (oK (S.rdel_gk l f lo len lo2 len2 rw rg rn nw ov k))) rfl (arr_lift (S.rdel_l0_v fu l f lo len lo2 len2 rw rg rn nw ov (contOf (C_rdel fu l f lo len lo2 len2 rw rg rn nw ov) G105 (bodyOf Tryz.f86) [1, 1, 1, 0, 1, 0] (retK tis F86 Tryz.f86 (List.length ([.fam 135 (.pair (.int .i64) (.pair (.int .i64) (.pair (.int .i64) .bool))) l f, .var [.ptr 2 0 0], .var [.slice 1 0 lo2 len2 none, .int .i64 rw, .int .i64 rg, .int .i64 rn, .int .i64 nw, .bool ov]] : List Blk)) k)) fu (o2) (Go.IntKind.wrap .i64 (o2 + 1)) (l)) ((fun z => S.rdel_a0_0_v fu l f lo len lo2 len2 rw rg rn nw ov (z.1) (z.2.1) (z.2.2.1) (z.2.2.2) k)))))
noncomputable def C_ddel (fu : Nat) (l : WL) (lo len : Nat) (t : Int) : Cfg := Cfg.of tis F86 fu (List.length ([.rows (.box 115 (.pair (.int .i64) (.int .i64))) l false, .var [.int .i64 t]] : List Blk)) Tryz.f86.ntmps
noncomputable def S.ddel_b0 : Code := codeAt (bodyOf Tryz.f86) [1, 1, 1, 0, 1, 0, 0]
noncomputable def S.ddel_s0 (l : WL) (lo len : Nat) (t : Int) (y0 : Int) (y1 : Int) (y2 : WL) : St := ⟨[(0, (.slice 1 0 (lo) (len) none)), (1, (.func 87 [(.ptr 1 (0) 0)])), (5, (.int .i64 (y0))), (6, (.int .i64 (y1)))], [(.rows (Cd.box 115 (Cd.pair (Cd.int .i64) (Cd.int .i64))) (y2) false), (.var [(.int .i64 (t))])]⟩
noncomputable def S.ddel_x0_0 (l : WL) (lo len : Nat) (t : Int) (z0 : Int) (z1 : Int) (z2 : Bool) (z3 : WL) : St := ⟨[(0, (.slice 1 0 (lo) (len) none)), (1, (.func 87 [(.ptr 1 (0) 0)])), (5, (.int .i64 (z0))), (6, (.int .i64 (z1))), (19, (.bool (z2)))], [(.rows (Cd.box 115 (Cd.pair (Cd.int .i64) (Cd.int .i64))) (z3) false), (.var [(.int .i64 (t))])]⟩
noncomputable def S.ddel_g0 {R : Type} (l : WL) (lo len : Nat) (t : Int) (K : Ex → St → Option R) : ((Int × Int × Bool × WL)) → Option R := (fun z : Int × Int × Bool × WL => K (Ex.exit 0) (S.ddel_x0_0 l lo len t (z.1) (z.2.1) (z.2.2.1) (z.2.2.2)))
noncomputable def S.ddel_gk {R : Type} (l : WL) (lo len : Nat) (t : Int) (k : AVal → List Blk → Option R) : (Nat × Nat × WL × Int) → Option R := (fun v : Nat × Nat × WL × Int => k (.slice 1 0 v.1 v.2.1 none) [(.rows (Cd.box 115 (Cd.pair (Cd.int .i64) (Cd.int .i64))) v.2.2.1 false), (.var [(.int .i64 v.2.2.2)])])
theorem S.ddel_l0_k {R : Type} (fu : Nat) (l : WL) (lo len : Nat) (t : Int) (n : Nat) (K : Ex → St → Option R) (y0 : Int) (y1 : Int) (y2 : WL) : loopRun (C_ddel fu l lo len t) G105 S.ddel_b0 (n + 1) (S.ddel_s0 l lo len t (y0) (y1) (y2)) K =
  (bif decide (y1 < ((len : Nat) : Int)) then
   bif inB y1 len then
   (optK (y2[Int.toNat y1 + lo]?) fun o4 =>
   (optC (o4) (loopRun (C_ddel fu l lo len t) G105 S.ddel_b0 n (S.ddel_s0 l lo len t (y0) (Go.IntKind.wrap .i64 (y1 + 1)) (y2)) K) fun o5 =>
   bif !S.dold o5.1 o5.2 t then
   bif inB y0 len then
   bif Nat.blt (Int.toNat y0 + lo) (List.length y2) then
   loopRun (C_ddel fu l lo len t) G105 S.ddel_b0 n (S.ddel_s0 l lo len t (Go.IntKind.wrap .i64 (y0 + 1)) (Go.IntKind.wrap .i64 (y1 + 1)) (List.set y2 (Int.toNat y0 + lo) (Option.some (o5.1, o5.2)))) K
 else
   none
 else
   none
 else
   loopRun (C_ddel fu l lo len t) G105 S.ddel_b0 n (S.ddel_s0 l lo len t (y0) (Go.IntKind.wrap .i64 (y1 + 1)) (y2)) K))
 else
   none
 else
   K (Ex.exit 0) (S.ddel_x0_0 l lo len t (y0) (y1) (decide (y1 < ((len : Nat) : Int))) (y2))) := by kernel_rfl
noncomputable def S.ddel_l0 (fu : Nat) (l : WL) (lo len : Nat) (t : Int) : Nat → (Int) → (Int) → (WL) → Option ((Int × Int × Bool × WL))
  | 0, _, _, _ => none
  | n + 1, y0, y1, y2 =>
    bif decide (y1 < ((len : Nat) : Int)) then
   bif inB y1 len then
   (optK (y2[Int.toNat y1 + lo]?) fun o4 =>
   (optC (o4) ((S.ddel_l0 fu l lo len t n) (y0) (Go.IntKind.wrap .i64 (y1 + 1)) (y2)) fun o5 =>
   bif !S.dold o5.1 o5.2 t then
   bif inB y0 len then
   bif Nat.blt (Int.toNat y0 + lo) (List.length y2) then
   (S.ddel_l0 fu l lo len t n) (Go.IntKind.wrap .i64 (y0 + 1)) (Go.IntKind.wrap .i64 (y1 + 1)) (List.set y2 (Int.toNat y0 + lo) (Option.some (o5.1, o5.2)))
 else
   none
 else
   none
 else
   (S.ddel_l0 fu l lo len t n) (y0) (Go.IntKind.wrap .i64 (y1 + 1)) (y2)))
 else
   none
 else
   some (y0, y1, decide (y1 < ((len : Nat) : Int)), y2)
theorem S.ddel_l0_v {R : Type} (fu : Nat) (l : WL) (lo len : Nat) (t : Int) (K : Ex → St → Option R) : ∀ (n : Nat) (y0 : Int) (y1 : Int) (y2 : WL), loopRun (C_ddel fu l lo len t) G105 S.ddel_b0 n (S.ddel_s0 l lo len t (y0) (y1) (y2)) K = oK (β := (Int × Int × Bool × WL)) (S.ddel_g0 l lo len t K) (S.ddel_l0 fu l lo len t n y0 y1 y2)
  | 0, _, _, _ => rfl
  | n + 1, y0, y1, y2 => (S.ddel_l0_k fu l lo len t n K y0 y1 y2).trans (bif_lift (f := (oK (S.ddel_g0 l lo len t K))) (bif_lift (f := (oK (S.ddel_g0 l lo len t K))) (opt_lift fun o4 => (optC_lift (f := (oK (S.ddel_g0 l lo len t K))) (S.ddel_l0_v fu l lo len t K n (y0) (Go.IntKind.wrap .i64 (y1 + 1)) (y2)) fun o5 => (bif_lift (f := (oK (S.ddel_g0 l lo len t K))) (bif_lift (f := (oK (S.ddel_g0 l lo len t K))) (bif_lift (f := (oK (S.ddel_g0 l lo len t K))) (S.ddel_l0_v fu l lo len t K n (Go.IntKind.wrap .i64 (y0 + 1)) (Go.IntKind.wrap .i64 (y1 + 1)) (List.set y2 (Int.toNat y0 + lo) (Option.some (o5.1, o5.2)))) rfl) rfl) (S.ddel_l0_v fu l lo len t K n (y0) (Go.IntKind.wrap .i64 (y1 + 1)) (y2))))) rfl) rfl)
noncomputable def S.ddel_a0_0 (fu : Nat) (l : WL) (lo len : Nat) (t : Int) (z0 : Int) (z1 : Int) (z2 : Bool) (z3 : WL) : Option (Nat × Nat × WL × Int) :=
  bif decide (0 ≤ z0 ∧ z0 ≤ ((len : Nat) : Int)) then
   bif Nat.ble (Int.toNat z0 + lo + (len - Int.toNat z0)) (List.length z3) then
   bif decide (0 ≤ z0 ∧ z0 ≤ ((len : Nat) : Int)) then
   some (lo, Int.toNat z0, List.take (Int.toNat z0 + lo) z3 ++ fillRows Option.none (len - Int.toNat z0) (List.drop (Int.toNat z0 + lo) z3), t)
 else
   none
 else
   none
 else
   none
theorem S.ddel_a0_0_v {R : Type} (fu : Nat) (l : WL) (lo len : Nat) (t : Int) (z0 : Int) (z1 : Int) (z2 : Bool) (z3 : WL) (k : AVal → List Blk → Option R) : contOf (C_ddel fu l lo len t) G105 (bodyOf Tryz.f86) [1, 1, 1, 0, 1, 0] (retK tis F86 Tryz.f86 (List.length ([.rows (.box 115 (.pair (.int .i64) (.int .i64))) l false, .var [.int .i64 t]] : List Blk)) k) (Ex.exit 0) (S.ddel_x0_0 l lo len t (z0) (z1) (z2) (z3)) = oK (S.ddel_gk l lo len t k) (S.ddel_a0_0 fu l lo len t z0 z1 z2 z3) :=
  Eq.trans (b := (bif decide (0 ≤ z0 ∧ z0 ≤ ((len : Nat) : Int)) then
   bif Nat.ble (Int.toNat z0 + lo + (len - Int.toNat z0)) (List.length z3) then
   bif decide (0 ≤ z0 ∧ z0 ≤ ((len : Nat) : Int)) then
   (S.ddel_gk l lo len t k) (lo, Int.toNat z0, List.take (Int.toNat z0 + lo) z3 ++ fillRows Option.none (len - Int.toNat z0) (List.drop (Int.toNat z0 + lo) z3), t)
 else
   none
 else
   none
 else
   none)) (by kernel_rfl) (bif_lift (f := (oK (S.ddel_gk l lo len t k))) (bif_lift (f := (oK (S.ddel_gk l lo len t k))) (bif_lift (f := (oK (S.ddel_gk l lo len t k))) rfl rfl) rfl) rfl)
noncomputable def S.ddel_L {R : Type} (fu : Nat) (l : WL) (lo len : Nat) (t : Int) (k : AVal → List Blk → Option R) : Option R := fnEval tis F86 fu G105 Tryz.f86 [.slice 1 0 lo len none, .func 87 [.ptr 1 0 0]] [.rows (.box 115 (.pair (.int .i64) (.int .i64))) l false, .var [.int .i64 t]] k
noncomputable def S.ddel (fu : Nat) (l : WL) (lo len : Nat) (t : Int) : Option (Nat × Nat × WL × Int) :=
  (optK (S.dix 100000 l lo len t) fun o2 =>
   bif decide (o2 = -1) then
   some (lo, len, l, t)
 else
   optK (S.ddel_l0 fu l lo len t fu (o2) (Go.IntKind.wrap .i64 (o2 + 1)) (l)) (fun z : Int × Int × Bool × WL => S.ddel_a0_0 fu l lo len t (z.1) (z.2.1) (z.2.2.1) (z.2.2.2)))
theorem S.ddel_v {R : Type} (fu : Nat) (l : WL) (lo len : Nat) (t : Int) (k : AVal → List Blk → Option R) : S.ddel_L fu l lo len t k = oK (S.ddel_gk l lo len t k) (S.ddel fu l lo len t) :=
  Eq.trans (b := ((optK (S.dix 100000 l lo len t) fun o2 =>
   bif decide (o2 = -1) then
   (S.ddel_gk l lo len t k) (lo, len, l, t)
 else
   loopRun (C_ddel fu l lo len t) G105 S.ddel_b0 fu (S.ddel_s0 l lo len t (o2) (Go.IntKind.wrap .i64 (o2 + 1)) (l)) (contOf (C_ddel fu l lo len t) G105 (bodyOf Tryz.f86) [1, 1, 1, 0, 1, 0] (retK tis F86 Tryz.f86 (List.length ([.rows (.box 115 (.pair (.int .i64) (.int .i64))) l false, .var [.int .i64 t]] : List Blk)) k))))) (by kernel_rfl) (opt_lift fun o2 => (bif_lift (f := (oK (S.ddel_gk l lo len t k))) rfl (arr_lift (S.ddel_l0_v fu l lo len t (contOf (C_ddel fu l lo len t) G105 (bodyOf Tryz.f86) [1, 1, 1, 0, 1, 0] (retK tis F86 Tryz.f86 (List.length ([.rows (.box 115 (.pair (.int .i64) (.int .i64))) l false, .var [.int .i64 t]] : List Blk)) k)) fu (o2) (Go.IntKind.wrap .i64 (o2 + 1)) (l)) ((fun z => S.ddel_a0_0_v fu l lo len t (z.1) (z.2.1) (z.2.2.1) (z.2.2.2) k)))))
noncomputable def H86 : Hnd := fun R args σ k => match args, σ with
  | [.slice 1 0 lo len none, .func 119 [.ptr 1 0 0]], [.fam 135 (.pair (.int .i64) (.pair (.int .i64) (.pair (.int .i64) .bool))) l f, .var [.ptr 2 0 0], .var [.slice 1 0 lo2 len2 none, .int .i64 rw, .int .i64 rg, .int .i64 rn, .int .i64 nw, .bool ov]] => oK (fun v : Nat × Nat × List (Option Nat) × BL × Nat × Nat × Int × Int × Int × Int × Bool => k (.slice 1 0 v.1 v.2.1 none) [(.fam 135 (Cd.pair (Cd.int .i64) (Cd.pair (Cd.int .i64) (Cd.pair (Cd.int .i64) Cd.bool))) v.2.2.1 v.2.2.2.1), (.var [(.ptr 2 (0) 0)]), (.var [(.slice 1 0 v.2.2.2.2.1 v.2.2.2.2.2.1 none), (.int .i64 v.2.2.2.2.2.2.1), (.int .i64 v.2.2.2.2.2.2.2.1), (.int .i64 v.2.2.2.2.2.2.2.2.1), (.int .i64 v.2.2.2.2.2.2.2.2.2.1), (.bool v.2.2.2.2.2.2.2.2.2.2)])]) (S.rdel 100000 l f lo len lo2 len2 rw rg rn nw ov)
  | [.slice 1 0 lo len none, .func 87 [.ptr 1 0 0]], [.rows (.box 115 (.pair (.int .i64) (.int .i64))) l false, .var [.int .i64 t]] => oK (fun v : Nat × Nat × WL × Int => k (.slice 1 0 v.1 v.2.1 none) [(.rows (Cd.box 115 (Cd.pair (Cd.int .i64) (Cd.int .i64))) v.2.2.1 false), (.var [(.int .i64 v.2.2.2)])]) (S.ddel 100000 l lo len t)
  | _, _ => none
theorem H86_ok : HndOk Tryz.prog 86 H86 := hnd_ok tis tisOk mixOk G105_ok F86 Tryz.func86 rfl (by
  intro R args σ k r h
  unfold H86 at h
  split at h
  · rename_i lo len l f lo2 len2 rw rg rn nw ov; exact ⟨100000, (S.rdel_v 100000 l f lo len lo2 len2 rw rg rn nw ov _).trans h⟩
  · rename_i lo len l t; exact ⟨100000, (S.ddel_v 100000 l lo len t _).trans h⟩
  · cases h)
noncomputable def G86 : Env := Env.add 86 H86 G105
theorem G86_ok : EnvOk Tryz.prog G86 := envAdd_ok H86_ok G105_ok
end Go.Proofs.YtdgipcjigbagfaaGreat.AB
