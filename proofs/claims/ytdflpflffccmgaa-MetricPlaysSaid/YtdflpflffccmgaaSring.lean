/- Rings, as plain functions. -/
import Derived.Test.YtdflpflffccmgaaSrconf
namespace Go.Proofs.Ytdflpflffccmgaa.AB
set_option linter.unusedVariables false

/-! ring.Buckets -/
def F50 : FCfg := ⟨keepAt [(0, [0, 1]), (1, [4])], loopAt [], []⟩
theorem S.pbuckets_k {R : Type} (w g : Int) (k : AVal → List Blk → Option R) : fnEval tis F50 0 G42 Try.f50 [.int .i64 w, .int .i64 g] [] k =
  (bif decide (g = 0) then
   none
 else
   k (.int .i64 (Go.IntKind.wrap .i64 (Int.tdiv (Go.IntKind.wrap .i64 (Go.IntKind.wrap .i64 (w + g) - 1)) g))) ([])) := by kernel_rfl
noncomputable def S.pbuckets (w g : Int) : Option (Int) :=
  bif decide (g = 0) then
   none
 else
   some (Go.IntKind.wrap .i64 (Int.tdiv (Go.IntKind.wrap .i64 (Go.IntKind.wrap .i64 (w + g) - 1)) g))
noncomputable def S.pbuckets_gk {R : Type} (w g : Int) (k : AVal → List Blk → Option R) : (Int) → Option R := (fun v : Int => k (.int .i64 v) [])
theorem S.pbuckets_v {R : Type} (w g : Int) (k : AVal → List Blk → Option R) : fnEval tis F50 0 G42 Try.f50 [.int .i64 w, .int .i64 g] [] k = oK (fun v : Int => k (.int .i64 v) []) (S.pbuckets w g) :=
  (S.pbuckets_k w g k).trans (bif_lift (f := (oK (S.pbuckets_gk w g k))) rfl rfl)
noncomputable def H50 : Hnd := fun R args σ k => match args, σ with
  | [.int .i64 w, .int .i64 g], [] => oK (fun v : Int => k (.int .i64 v) []) (S.pbuckets w g)
  | _, _ => none
theorem H50_ok : HndOk Try.prog 50 H50 := hnd_ok tis tisOk mixOk G42_ok F50 Try.func50 rfl (by
  intro R args σ k r h
  unfold H50 at h
  split at h
  · rename_i w g; exact ⟨0, (S.pbuckets_v w g _).trans h⟩
  · cases h)
noncomputable def G50 : Env := Env.add 50 H50 G42
theorem G50_ok : EnvOk Try.prog G50 := envAdd_ok H50_ok G42_ok

/-! ring.New -/
def F31 : FCfg := ⟨keepAt [(0, [0, 1]), (1, [0, 1, 19]), (2, [4]), (3, [4])], loopAt [], []⟩
theorem S.pring_k {R : Type} (w g : Int) (k : AVal → List Blk → Option R) : fnEval tis F31 0 G50 Try.f31 [.int .i64 w, .int .i64 g] [] k =
  (bif decide (w < 1) then
   k (.nilp) ([])
 else
   bif decide (600 < w) then
   k (.nilp) ([])
 else
   bif decide (g < 1) then
   k (.nilp) ([])
 else
   bif decide (w < g) then
   k (.nilp) ([])
 else
   (optK (S.pbuckets w g) fun o6 =>
   k (.ptr 0 0 0) ([.var [.nils, .int .i64 w, .int .i64 g, .int .i64 o6, .int .i64 (-1), .bool false]]))) := by kernel_rfl
noncomputable def S.pring (w g : Int) : Option ((Unit) ⊕ (Int × Int × Int)) :=
  bif decide (w < 1) then
   some (.inl ())
 else
   bif decide (600 < w) then
   some (.inl ())
 else
   bif decide (g < 1) then
   some (.inl ())
 else
   bif decide (w < g) then
   some (.inl ())
 else
   (optK (S.pbuckets w g) fun o6 =>
   some (.inr (w, g, o6)))
noncomputable def S.pring_gk {R : Type} (w g : Int) (k : AVal → List Blk → Option R) : ((Unit) ⊕ (Int × Int × Int)) → Option R := (Sum.elim (fun v : Unit => k .nilp []) (fun v : Int × Int × Int => k (.ptr 0 (0) 0) [(.var [.nils, (.int .i64 v.1), (.int .i64 v.2.1), (.int .i64 v.2.2), (.int .i64 (-1)), (.bool (false))])]))
theorem S.pring_v {R : Type} (w g : Int) (k : AVal → List Blk → Option R) : fnEval tis F31 0 G50 Try.f31 [.int .i64 w, .int .i64 g] [] k = oK (Sum.elim (fun v : Unit => k .nilp []) (fun v : Int × Int × Int => k (.ptr 0 (0) 0) [(.var [.nils, (.int .i64 v.1), (.int .i64 v.2.1), (.int .i64 v.2.2), (.int .i64 (-1)), (.bool (false))])])) (S.pring w g) :=
  (S.pring_k w g k).trans (bif_lift (f := (oK (S.pring_gk w g k))) rfl (bif_lift (f := (oK (S.pring_gk w g k))) rfl (bif_lift (f := (oK (S.pring_gk w g k))) rfl (bif_lift (f := (oK (S.pring_gk w g k))) rfl (opt_lift fun o6 => rfl)))))
noncomputable def H31 : Hnd := fun R args σ k => match args, σ with
  | [.int .i64 w, .int .i64 g], [] => oK (Sum.elim (fun v : Unit => k .nilp []) (fun v : Int × Int × Int => k (.ptr 0 (0) 0) [(.var [.nils, (.int .i64 v.1), (.int .i64 v.2.1), (.int .i64 v.2.2), (.int .i64 (-1)), (.bool (false))])])) (S.pring w g)
  | _, _ => none
theorem H31_ok : HndOk Try.prog 31 H31 := hnd_ok tis tisOk mixOk G50_ok F31 Try.func31 rfl (by
  intro R args σ k r h
  unfold H31 at h
  split at h
  · rename_i w g; exact ⟨0, (S.pring_v w g _).trans h⟩
  · cases h)
noncomputable def G31 : Env := Env.add 31 H31 G50
theorem G31_ok : EnvOk Try.prog G31 := envAdd_ok H31_ok G50_ok

/-! (*ring.Ring).forget$1 -/
def F71 : FCfg := ⟨keepAt [(0, [0, 1]), (1, [1, 4, 5]), (2, [3])], loopAt [], []⟩
theorem S.rgone_k {R : Type} (l : FL) (f : BL) (q lo len : Nat) (rw rg rn nw : Int) (ov : Bool) (k : AVal → List Blk → Option R) : fnEval tis F71 0 G31 Try.f71 [.iface 80 (.fptr 0 q 0), .ptr 1 0 0] [.fam 80 (.pair (.int .i64) (.pair (.int .i64) (.pair (.int .i64) .bool))) l f, .var [.ptr 2 0 0], .var [.slice 1 0 lo len none, .int .i64 rw, .int .i64 rg, .int .i64 rn, .int .i64 nw, .bool ov]] k =
  ((optK (f[q]?) fun o2 =>
   k (.bool (decide (rn ≤ Go.IntKind.wrap .i64 (nw - o2.1)))) ([.fam 80 (Cd.pair (Cd.int .i64) (Cd.pair (Cd.int .i64) (Cd.pair (Cd.int .i64) Cd.bool))) l f, .var [.ptr 2 0 0], .var [.slice 1 0 lo len Option.none, .int .i64 rw, .int .i64 rg, .int .i64 rn, .int .i64 nw, .bool ov]]))) := by kernel_rfl
noncomputable def S.rgone (l : FL) (f : BL) (q lo len : Nat) (rw rg rn nw : Int) (ov : Bool) : Option (Bool) :=
  (optK (f[q]?) fun o2 =>
   some (decide (rn ≤ Go.IntKind.wrap .i64 (nw - o2.1))))
noncomputable def S.rgone_gk {R : Type} (l : FL) (f : BL) (q lo len : Nat) (rw rg rn nw : Int) (ov : Bool) (k : AVal → List Blk → Option R) : (Bool) → Option R := (fun v : Bool => k (.bool v) [.fam 80 (.pair (.int .i64) (.pair (.int .i64) (.pair (.int .i64) .bool))) l f, .var [.ptr 2 0 0], .var [.slice 1 0 lo len none, .int .i64 rw, .int .i64 rg, .int .i64 rn, .int .i64 nw, .bool ov]])
theorem S.rgone_v {R : Type} (l : FL) (f : BL) (q lo len : Nat) (rw rg rn nw : Int) (ov : Bool) (k : AVal → List Blk → Option R) : fnEval tis F71 0 G31 Try.f71 [.iface 80 (.fptr 0 q 0), .ptr 1 0 0] [.fam 80 (.pair (.int .i64) (.pair (.int .i64) (.pair (.int .i64) .bool))) l f, .var [.ptr 2 0 0], .var [.slice 1 0 lo len none, .int .i64 rw, .int .i64 rg, .int .i64 rn, .int .i64 nw, .bool ov]] k = oK (fun v : Bool => k (.bool v) [.fam 80 (.pair (.int .i64) (.pair (.int .i64) (.pair (.int .i64) .bool))) l f, .var [.ptr 2 0 0], .var [.slice 1 0 lo len none, .int .i64 rw, .int .i64 rg, .int .i64 rn, .int .i64 nw, .bool ov]]) (S.rgone l f q lo len rw rg rn nw ov) :=
  (S.rgone_k l f q lo len rw rg rn nw ov k).trans (opt_lift fun o2 => rfl)
noncomputable def H71 : Hnd := fun R args σ k => match args, σ with
  | [.iface 80 (.fptr 0 q 0), .ptr 1 0 0], [.fam 80 (.pair (.int .i64) (.pair (.int .i64) (.pair (.int .i64) .bool))) l f, .var [.ptr 2 0 0], .var [.slice 1 0 lo len none, .int .i64 rw, .int .i64 rg, .int .i64 rn, .int .i64 nw, .bool ov]] => oK (fun v : Bool => k (.bool v) []) (S.rgone l f q lo len rw rg rn nw ov)
  | _, _ => none
theorem H71_ok : HndOk Try.prog 71 H71 := hnd_ok_pure tis tisOk mixOk G31_ok F71 Try.func71 rfl (by
  intro R args σ k r h
  unfold H71 at h
  split at h
  · rename_i q l f lo len rw rg rn nw ov; exact ⟨0, (S.rgone_v l f q lo len rw rg rn nw ov _).trans ((congrArg (fun g9 => oK g9 (S.rgone l f q lo len rw rg rn nw ov)) (funext fun v => if_pos rfl)).trans h)⟩
  · cases h)
noncomputable def G71 : Env := Env.add 71 H71 G31
theorem G71_ok : EnvOk Try.prog G71 := envAdd_ok H71_ok G31_ok

/-! (*ring.Ring).Put$1 -/
def F53 : FCfg := ⟨keepAt [(0, [0, 1]), (1, [3])], loopAt [], []⟩
theorem S.rhere_k {R : Type} (l : FL) (f : BL) (q : Nat) (a : Int) (k : AVal → List Blk → Option R) : fnEval tis F53 0 G71 Try.f53 [.iface 80 (.fptr 0 q 0), .ptr 1 0 0] [.fam 80 (.pair (.int .i64) (.pair (.int .i64) (.pair (.int .i64) .bool))) l f, .var [.int .i64 a]] k =
  ((optK (f[q]?) fun o2 =>
   k (.bool (decide (o2.1 = a))) ([.fam 80 (Cd.pair (Cd.int .i64) (Cd.pair (Cd.int .i64) (Cd.pair (Cd.int .i64) Cd.bool))) l f, .var [.int .i64 a]]))) := by kernel_rfl
noncomputable def S.rhere (l : FL) (f : BL) (q : Nat) (a : Int) : Option (Bool) :=
  (optK (f[q]?) fun o2 =>
   some (decide (o2.1 = a)))
noncomputable def S.rhere_gk {R : Type} (l : FL) (f : BL) (q : Nat) (a : Int) (k : AVal → List Blk → Option R) : (Bool) → Option R := (fun v : Bool => k (.bool v) [.fam 80 (.pair (.int .i64) (.pair (.int .i64) (.pair (.int .i64) .bool))) l f, .var [.int .i64 a]])
theorem S.rhere_v {R : Type} (l : FL) (f : BL) (q : Nat) (a : Int) (k : AVal → List Blk → Option R) : fnEval tis F53 0 G71 Try.f53 [.iface 80 (.fptr 0 q 0), .ptr 1 0 0] [.fam 80 (.pair (.int .i64) (.pair (.int .i64) (.pair (.int .i64) .bool))) l f, .var [.int .i64 a]] k = oK (fun v : Bool => k (.bool v) [.fam 80 (.pair (.int .i64) (.pair (.int .i64) (.pair (.int .i64) .bool))) l f, .var [.int .i64 a]]) (S.rhere l f q a) :=
  (S.rhere_k l f q a k).trans (opt_lift fun o2 => rfl)
noncomputable def H53 : Hnd := fun R args σ k => match args, σ with
  | [.iface 80 (.fptr 0 q 0), .ptr 1 0 0], [.fam 80 (.pair (.int .i64) (.pair (.int .i64) (.pair (.int .i64) .bool))) l f, .var [.int .i64 a]] => oK (fun v : Bool => k (.bool v) []) (S.rhere l f q a)
  | _, _ => none
theorem H53_ok : HndOk Try.prog 53 H53 := hnd_ok_pure tis tisOk mixOk G71_ok F53 Try.func53 rfl (by
  intro R args σ k r h
  unfold H53 at h
  split at h
  · rename_i q l f a; exact ⟨0, (S.rhere_v l f q a _).trans ((congrArg (fun g9 => oK g9 (S.rhere l f q a)) (funext fun v => if_pos rfl)).trans h)⟩
  · cases h)
noncomputable def G53 : Env := Env.add 53 H53 G71
theorem G53_ok : EnvOk Try.prog G53 := envAdd_ok H53_ok G71_ok

/-! slices.IndexFunc[[]any,any] -/
def F52 : FCfg := ⟨keepAt [(0, [0, 1]), (1, [0, 1, 7, 8]), (2, [0, 1, 7, 8, 9]), (3, [0, 1, 5, 7, 8]), (4, [0, 1, 5, 7, 8, 16]), (5, [4]), (6, [0, 1, 7, 8]), (7, [4])], loopAt [(2, [0, 1, 7, 8], [])], []⟩
noncomputable def C_rix (fu : Nat) (l : FL) (f : BL) (lo len lo2 len2 : Nat) (rw rg rn nw : Int) (ov : Bool) : Cfg := Cfg.of tis F52 fu (List.length ([.fam 80 (.pair (.int .i64) (.pair (.int .i64) (.pair (.int .i64) .bool))) l f, .var [.ptr 2 0 0], .var [.slice 1 0 lo2 len2 none, .int .i64 rw, .int .i64 rg, .int .i64 rn, .int .i64 nw, .bool ov]] : List Blk)) Try.f52.ntmps
noncomputable def S.rix_b0 : Code := codeAt (bodyOf Try.f52) [1, 0, 1, 0, 0]
noncomputable def S.rix_s0 (l : FL) (f : BL) (lo len lo2 len2 : Nat) (rw rg rn nw : Int) (ov : Bool) (y0 : Int) : St := ⟨[(0, (.slice 1 0 (lo) (len) none)), (1, (.func 71 [(.ptr 1 (0) 0)])), (7, (.int .i64 (((len : Nat) : Int)))), (8, (.int .i64 (y0)))], [(.fam 80 (Cd.pair (Cd.int .i64) (Cd.pair (Cd.int .i64) (Cd.pair (Cd.int .i64) Cd.bool))) (l) (f)), (.var [(.ptr 2 (0) 0)]), (.var [(.slice 1 0 (lo2) (len2) none), (.int .i64 (rw)), (.int .i64 (rg)), (.int .i64 (rn)), (.int .i64 (nw)), (.bool (ov))])]⟩
noncomputable def S.rix_x0_0 (l : FL) (f : BL) (lo len lo2 len2 : Nat) (rw rg rn nw : Int) (ov : Bool) (z0 : Int) : St := ⟨[(4, (.int .i64 (z0)))], [(.fam 80 (Cd.pair (Cd.int .i64) (Cd.pair (Cd.int .i64) (Cd.pair (Cd.int .i64) Cd.bool))) (l) (f)), (.var [(.ptr 2 (0) 0)]), (.var [(.slice 1 0 (lo2) (len2) none), (.int .i64 (rw)), (.int .i64 (rg)), (.int .i64 (rn)), (.int .i64 (nw)), (.bool (ov))])]⟩
noncomputable def S.rix_x0_1 (l : FL) (f : BL) (lo len lo2 len2 : Nat) (rw rg rn nw : Int) (ov : Bool) (z0 : Int) (z1 : Bool) : St := ⟨[(0, (.slice 1 0 (lo) (len) none)), (1, (.func 71 [(.ptr 1 (0) 0)])), (7, (.int .i64 (((len : Nat) : Int)))), (8, (.int .i64 (z0))), (9, (.bool (z1)))], [(.fam 80 (Cd.pair (Cd.int .i64) (Cd.pair (Cd.int .i64) (Cd.pair (Cd.int .i64) Cd.bool))) (l) (f)), (.var [(.ptr 2 (0) 0)]), (.var [(.slice 1 0 (lo2) (len2) none), (.int .i64 (rw)), (.int .i64 (rg)), (.int .i64 (rn)), (.int .i64 (nw)), (.bool (ov))])]⟩
noncomputable def S.rix_g0 {R : Type} (l : FL) (f : BL) (lo len lo2 len2 : Nat) (rw rg rn nw : Int) (ov : Bool) (K : Ex → St → Option R) : ((Int) ⊕ (Int × Bool)) → Option R := (Sum.elim (fun z : Int => K (Ex.ret) (S.rix_x0_0 l f lo len lo2 len2 rw rg rn nw ov (z))) (fun z : Int × Bool => K (Ex.exit 0) (S.rix_x0_1 l f lo len lo2 len2 rw rg rn nw ov (z.1) (z.2))))
noncomputable def S.rix_gk {R : Type} (l : FL) (f : BL) (lo len lo2 len2 : Nat) (rw rg rn nw : Int) (ov : Bool) (k : AVal → List Blk → Option R) : (Int) → Option R := (fun v : Int => k (.int .i64 v) [.fam 80 (.pair (.int .i64) (.pair (.int .i64) (.pair (.int .i64) .bool))) l f, .var [.ptr 2 0 0], .var [.slice 1 0 lo2 len2 none, .int .i64 rw, .int .i64 rg, .int .i64 rn, .int .i64 nw, .bool ov]])
theorem S.rix_l0_k {R : Type} (fu : Nat) (l : FL) (f : BL) (lo len lo2 len2 : Nat) (rw rg rn nw : Int) (ov : Bool) (n : Nat) (K : Ex → St → Option R) (y0 : Int) : loopRun (C_rix fu l f lo len lo2 len2 rw rg rn nw ov) G53 S.rix_b0 (n + 1) (S.rix_s0 l f lo len lo2 len2 rw rg rn nw ov (y0)) K =
  (bif decide (y0 < ((len : Nat) : Int)) then
   bif inB y0 len then
   (optK (l[Int.toNat y0 + lo]?) fun o4 =>
   (optK (o4) fun o5 =>
   (optK (S.rgone l f o5 lo2 len2 rw rg rn nw ov) fun o6 =>
   bif o6 then
   K (Ex.ret) (S.rix_x0_0 l f lo len lo2 len2 rw rg rn nw ov (y0))
 else
   loopRun (C_rix fu l f lo len lo2 len2 rw rg rn nw ov) G53 S.rix_b0 n (S.rix_s0 l f lo len lo2 len2 rw rg rn nw ov (Go.IntKind.wrap .i64 (y0 + 1))) K)))
 else
   none
 else
   K (Ex.exit 0) (S.rix_x0_1 l f lo len lo2 len2 rw rg rn nw ov (y0) (decide (y0 < ((len : Nat) : Int))))) := by kernel_rfl
noncomputable def S.rix_l0 (fu : Nat) (l : FL) (f : BL) (lo len lo2 len2 : Nat) (rw rg rn nw : Int) (ov : Bool) : Nat → (Int) → Option ((Int) ⊕ (Int × Bool))
  | 0, _ => none
  | n + 1, y0 =>
    bif decide (y0 < ((len : Nat) : Int)) then
   bif inB y0 len then
   (optK (l[Int.toNat y0 + lo]?) fun o4 =>
   (optK (o4) fun o5 =>
   (optK (S.rgone l f o5 lo2 len2 rw rg rn nw ov) fun o6 =>
   bif o6 then
   some (.inl (y0))
 else
   (S.rix_l0 fu l f lo len lo2 len2 rw rg rn nw ov n) (Go.IntKind.wrap .i64 (y0 + 1)))))
 else
   none
 else
   some (.inr (y0, decide (y0 < ((len : Nat) : Int))))
theorem S.rix_l0_v {R : Type} (fu : Nat) (l : FL) (f : BL) (lo len lo2 len2 : Nat) (rw rg rn nw : Int) (ov : Bool) (K : Ex → St → Option R) : ∀ (n : Nat) (y0 : Int), loopRun (C_rix fu l f lo len lo2 len2 rw rg rn nw ov) G53 S.rix_b0 n (S.rix_s0 l f lo len lo2 len2 rw rg rn nw ov (y0)) K = oK (β := (Int) ⊕ (Int × Bool)) (S.rix_g0 l f lo len lo2 len2 rw rg rn nw ov K) (S.rix_l0 fu l f lo len lo2 len2 rw rg rn nw ov n y0)
  | 0, _ => rfl
  | n + 1, y0 => (S.rix_l0_k fu l f lo len lo2 len2 rw rg rn nw ov n K y0).trans (bif_lift (f := (oK (S.rix_g0 l f lo len lo2 len2 rw rg rn nw ov K))) (bif_lift (f := (oK (S.rix_g0 l f lo len lo2 len2 rw rg rn nw ov K))) (opt_lift fun o4 => (opt_lift fun o5 => (opt_lift fun o6 => (bif_lift (f := (oK (S.rix_g0 l f lo len lo2 len2 rw rg rn nw ov K))) rfl (S.rix_l0_v fu l f lo len lo2 len2 rw rg rn nw ov K n (Go.IntKind.wrap .i64 (y0 + 1))))))) rfl) rfl)
theorem S.rix_a0_1_k {R : Type} (fu : Nat) (l : FL) (f : BL) (lo len lo2 len2 : Nat) (rw rg rn nw : Int) (ov : Bool) (z0 : Int) (z1 : Bool) (k : AVal → List Blk → Option R) : contOf (C_rix fu l f lo len lo2 len2 rw rg rn nw ov) G53 (bodyOf Try.f52) [1, 0, 1, 0] (retK tis F52 Try.f52 (List.length ([.fam 80 (.pair (.int .i64) (.pair (.int .i64) (.pair (.int .i64) .bool))) l f, .var [.ptr 2 0 0], .var [.slice 1 0 lo2 len2 none, .int .i64 rw, .int .i64 rg, .int .i64 rn, .int .i64 nw, .bool ov]] : List Blk)) k) (Ex.exit 0) (S.rix_x0_1 l f lo len lo2 len2 rw rg rn nw ov (z0) (z1)) =
  (k (.int .i64 (-1)) ([.fam 80 (Cd.pair (Cd.int .i64) (Cd.pair (Cd.int .i64) (Cd.pair (Cd.int .i64) Cd.bool))) l f, .var [.ptr 2 0 0], .var [.slice 1 0 lo2 len2 Option.none, .int .i64 rw, .int .i64 rg, .int .i64 rn, .int .i64 nw, .bool ov]])) := by kernel_rfl
noncomputable def S.rix_a0_1 (fu : Nat) (l : FL) (f : BL) (lo len lo2 len2 : Nat) (rw rg rn nw : Int) (ov : Bool) (z0 : Int) (z1 : Bool) : Option (Int) :=
  some (-1)
theorem S.rix_a0_1_v {R : Type} (fu : Nat) (l : FL) (f : BL) (lo len lo2 len2 : Nat) (rw rg rn nw : Int) (ov : Bool) (z0 : Int) (z1 : Bool) (k : AVal → List Blk → Option R) : contOf (C_rix fu l f lo len lo2 len2 rw rg rn nw ov) G53 (bodyOf Try.f52) [1, 0, 1, 0] (retK tis F52 Try.f52 (List.length ([.fam 80 (.pair (.int .i64) (.pair (.int .i64) (.pair (.int .i64) .bool))) l f, .var [.ptr 2 0 0], .var [.slice 1 0 lo2 len2 none, .int .i64 rw, .int .i64 rg, .int .i64 rn, .int .i64 nw, .bool ov]] : List Blk)) k) (Ex.exit 0) (S.rix_x0_1 l f lo len lo2 len2 rw rg rn nw ov (z0) (z1)) = oK (S.rix_gk l f lo len lo2 len2 rw rg rn nw ov k) (S.rix_a0_1 fu l f lo len lo2 len2 rw rg rn nw ov z0 z1) :=
  (S.rix_a0_1_k fu l f lo len lo2 len2 rw rg rn nw ov z0 z1 k).trans rfl
theorem S.rix_a0_0_k {R : Type} (fu : Nat) (l : FL) (f : BL) (lo len lo2 len2 : Nat) (rw rg rn nw : Int) (ov : Bool) (z0 : Int) (k : AVal → List Blk → Option R) : contOf (C_rix fu l f lo len lo2 len2 rw rg rn nw ov) G53 (bodyOf Try.f52) [1, 0, 1, 0] (retK tis F52 Try.f52 (List.length ([.fam 80 (.pair (.int .i64) (.pair (.int .i64) (.pair (.int .i64) .bool))) l f, .var [.ptr 2 0 0], .var [.slice 1 0 lo2 len2 none, .int .i64 rw, .int .i64 rg, .int .i64 rn, .int .i64 nw, .bool ov]] : List Blk)) k) (Ex.ret) (S.rix_x0_0 l f lo len lo2 len2 rw rg rn nw ov (z0)) =
  (k (.int .i64 z0) ([.fam 80 (Cd.pair (Cd.int .i64) (Cd.pair (Cd.int .i64) (Cd.pair (Cd.int .i64) Cd.bool))) l f, .var [.ptr 2 0 0], .var [.slice 1 0 lo2 len2 Option.none, .int .i64 rw, .int .i64 rg, .int .i64 rn, .int .i64 nw, .bool ov]])) := by kernel_rfl
noncomputable def S.rix_a0_0 (fu : Nat) (l : FL) (f : BL) (lo len lo2 len2 : Nat) (rw rg rn nw : Int) (ov : Bool) (z0 : Int) : Option (Int) :=
  some (z0)
theorem S.rix_a0_0_v {R : Type} (fu : Nat) (l : FL) (f : BL) (lo len lo2 len2 : Nat) (rw rg rn nw : Int) (ov : Bool) (z0 : Int) (k : AVal → List Blk → Option R) : contOf (C_rix fu l f lo len lo2 len2 rw rg rn nw ov) G53 (bodyOf Try.f52) [1, 0, 1, 0] (retK tis F52 Try.f52 (List.length ([.fam 80 (.pair (.int .i64) (.pair (.int .i64) (.pair (.int .i64) .bool))) l f, .var [.ptr 2 0 0], .var [.slice 1 0 lo2 len2 none, .int .i64 rw, .int .i64 rg, .int .i64 rn, .int .i64 nw, .bool ov]] : List Blk)) k) (Ex.ret) (S.rix_x0_0 l f lo len lo2 len2 rw rg rn nw ov (z0)) = oK (S.rix_gk l f lo len lo2 len2 rw rg rn nw ov k) (S.rix_a0_0 fu l f lo len lo2 len2 rw rg rn nw ov z0) :=
  (S.rix_a0_0_k fu l f lo len lo2 len2 rw rg rn nw ov z0 k).trans rfl
theorem S.rix_k {R : Type} (fu : Nat) (l : FL) (f : BL) (lo len lo2 len2 : Nat) (rw rg rn nw : Int) (ov : Bool) (k : AVal → List Blk → Option R) : fnEval tis F52 fu G53 Try.f52 [.slice 1 0 lo len none, .func 71 [.ptr 1 0 0]] [.fam 80 (.pair (.int .i64) (.pair (.int .i64) (.pair (.int .i64) .bool))) l f, .var [.ptr 2 0 0], .var [.slice 1 0 lo2 len2 none, .int .i64 rw, .int .i64 rg, .int .i64 rn, .int .i64 nw, .bool ov]] k =
  (loopRun (C_rix fu l f lo len lo2 len2 rw rg rn nw ov) G53 S.rix_b0 fu (S.rix_s0 l f lo len lo2 len2 rw rg rn nw ov (0)) (contOf (C_rix fu l f lo len lo2 len2 rw rg rn nw ov) G53 (bodyOf Try.f52) [1, 0, 1, 0] (retK tis F52 Try.f52 (List.length ([.fam 80 (.pair (.int .i64) (.pair (.int .i64) (.pair (.int .i64) .bool))) l f, .var [.ptr 2 0 0], .var [.slice 1 0 lo2 len2 none, .int .i64 rw, .int .i64 rg, .int .i64 rn, .int .i64 nw, .bool ov]] : List Blk)) k))) := by kernel_rfl
noncomputable def S.rix (fu : Nat) (l : FL) (f : BL) (lo len lo2 len2 : Nat) (rw rg rn nw : Int) (ov : Bool) : Option (Int) :=
  optK (S.rix_l0 fu l f lo len lo2 len2 rw rg rn nw ov fu (0)) (Sum.elim (fun z : Int => S.rix_a0_0 fu l f lo len lo2 len2 rw rg rn nw ov (z)) (fun z : Int × Bool => S.rix_a0_1 fu l f lo len lo2 len2 rw rg rn nw ov (z.1) (z.2)))
theorem S.rix_v {R : Type} (fu : Nat) (l : FL) (f : BL) (lo len lo2 len2 : Nat) (rw rg rn nw : Int) (ov : Bool) (k : AVal → List Blk → Option R) : fnEval tis F52 fu G53 Try.f52 [.slice 1 0 lo len none, .func 71 [.ptr 1 0 0]] [.fam 80 (.pair (.int .i64) (.pair (.int .i64) (.pair (.int .i64) .bool))) l f, .var [.ptr 2 0 0], .var [.slice 1 0 lo2 len2 none, .int .i64 rw, .int .i64 rg, .int .i64 rn, .int .i64 nw, .bool ov]] k = oK (fun v : Int => k (.int .i64 v) [.fam 80 (.pair (.int .i64) (.pair (.int .i64) (.pair (.int .i64) .bool))) l f, .var [.ptr 2 0 0], .var [.slice 1 0 lo2 len2 none, .int .i64 rw, .int .i64 rg, .int .i64 rn, .int .i64 nw, .bool ov]]) (S.rix fu l f lo len lo2 len2 rw rg rn nw ov) :=
  (S.rix_k fu l f lo len lo2 len2 rw rg rn nw ov k).trans (arr_lift (S.rix_l0_v fu l f lo len lo2 len2 rw rg rn nw ov (contOf (C_rix fu l f lo len lo2 len2 rw rg rn nw ov) G53 (bodyOf Try.f52) [1, 0, 1, 0] (retK tis F52 Try.f52 (List.length ([.fam 80 (.pair (.int .i64) (.pair (.int .i64) (.pair (.int .i64) .bool))) l f, .var [.ptr 2 0 0], .var [.slice 1 0 lo2 len2 none, .int .i64 rw, .int .i64 rg, .int .i64 rn, .int .i64 nw, .bool ov]] : List Blk)) k)) fu (0)) ((sum_lift (fun z => S.rix_a0_0_v fu l f lo len lo2 len2 rw rg rn nw ov (z) k) (fun z => S.rix_a0_1_v fu l f lo len lo2 len2 rw rg rn nw ov (z.1) (z.2) k))))
noncomputable def C_rix1 (fu : Nat) (rw rg rn nw : Int) (ov : Bool) : Cfg := Cfg.of tis F52 fu (List.length ([.var [.ptr 1 0 0], .var [.nils, .int .i64 rw, .int .i64 rg, .int .i64 rn, .int .i64 nw, .bool ov]] : List Blk)) Try.f52.ntmps
noncomputable def S.rix1_b0 : Code := codeAt (bodyOf Try.f52) [1, 0, 1, 0, 0]
noncomputable def S.rix1_s0 (rw rg rn nw : Int) (ov : Bool)  : St := ⟨[(0, .nils), (1, (.func 71 [(.ptr 0 (0) 0)])), (7, (.int .i64 (0))), (8, (.int .i64 (0)))], [(.var [(.ptr 1 (0) 0)]), (.var [.nils, (.int .i64 (rw)), (.int .i64 (rg)), (.int .i64 (rn)), (.int .i64 (nw)), (.bool (ov))])]⟩
noncomputable def S.rix1_x0_0 (rw rg rn nw : Int) (ov : Bool)  : St := ⟨[(0, .nils), (1, (.func 71 [(.ptr 0 (0) 0)])), (7, (.int .i64 (0))), (8, (.int .i64 (0))), (9, (.bool (false)))], [(.var [(.ptr 1 (0) 0)]), (.var [.nils, (.int .i64 (rw)), (.int .i64 (rg)), (.int .i64 (rn)), (.int .i64 (nw)), (.bool (ov))])]⟩
noncomputable def S.rix1_g0 {R : Type} (rw rg rn nw : Int) (ov : Bool) (K : Ex → St → Option R) : ((Unit)) → Option R := (fun z : Unit => K (Ex.exit 0) (S.rix1_x0_0 rw rg rn nw ov))
noncomputable def S.rix1_gk {R : Type} (rw rg rn nw : Int) (ov : Bool) (k : AVal → List Blk → Option R) : (Int) → Option R := (fun v : Int => k (.int .i64 v) [.var [.ptr 1 0 0], .var [.nils, .int .i64 rw, .int .i64 rg, .int .i64 rn, .int .i64 nw, .bool ov]])
theorem S.rix1_l0_k {R : Type} (fu : Nat) (rw rg rn nw : Int) (ov : Bool) (n : Nat) (K : Ex → St → Option R)  : loopRun (C_rix1 fu rw rg rn nw ov) G53 S.rix1_b0 (n + 1) (S.rix1_s0 rw rg rn nw ov) K =
  (K (Ex.exit 0) (S.rix1_x0_0 rw rg rn nw ov)) := by kernel_rfl
noncomputable def S.rix1_l0 (fu : Nat) (rw rg rn nw : Int) (ov : Bool) : Nat → Option ((Unit))
  | 0 => none
  | n + 1 =>
    some ()
theorem S.rix1_l0_v {R : Type} (fu : Nat) (rw rg rn nw : Int) (ov : Bool) (K : Ex → St → Option R) : ∀ (n : Nat) , loopRun (C_rix1 fu rw rg rn nw ov) G53 S.rix1_b0 n (S.rix1_s0 rw rg rn nw ov) K = oK (β := (Unit)) (S.rix1_g0 rw rg rn nw ov K) (S.rix1_l0 fu rw rg rn nw ov n)
  | 0 => rfl
  | n + 1 => (S.rix1_l0_k fu rw rg rn nw ov n K).trans rfl
theorem S.rix1_a0_0_k {R : Type} (fu : Nat) (rw rg rn nw : Int) (ov : Bool)  (k : AVal → List Blk → Option R) : contOf (C_rix1 fu rw rg rn nw ov) G53 (bodyOf Try.f52) [1, 0, 1, 0] (retK tis F52 Try.f52 (List.length ([.var [.ptr 1 0 0], .var [.nils, .int .i64 rw, .int .i64 rg, .int .i64 rn, .int .i64 nw, .bool ov]] : List Blk)) k) (Ex.exit 0) (S.rix1_x0_0 rw rg rn nw ov) =
  (k (.int .i64 (-1)) ([.var [.ptr 1 0 0], .var [.nils, .int .i64 rw, .int .i64 rg, .int .i64 rn, .int .i64 nw, .bool ov]])) := by kernel_rfl
noncomputable def S.rix1_a0_0 (fu : Nat) (rw rg rn nw : Int) (ov : Bool)  : Option (Int) :=
  some (-1)
theorem S.rix1_a0_0_v {R : Type} (fu : Nat) (rw rg rn nw : Int) (ov : Bool)  (k : AVal → List Blk → Option R) : contOf (C_rix1 fu rw rg rn nw ov) G53 (bodyOf Try.f52) [1, 0, 1, 0] (retK tis F52 Try.f52 (List.length ([.var [.ptr 1 0 0], .var [.nils, .int .i64 rw, .int .i64 rg, .int .i64 rn, .int .i64 nw, .bool ov]] : List Blk)) k) (Ex.exit 0) (S.rix1_x0_0 rw rg rn nw ov) = oK (S.rix1_gk rw rg rn nw ov k) (S.rix1_a0_0 fu rw rg rn nw ov) :=
  (S.rix1_a0_0_k fu rw rg rn nw ov k).trans rfl
theorem S.rix1_k {R : Type} (fu : Nat) (rw rg rn nw : Int) (ov : Bool) (k : AVal → List Blk → Option R) : fnEval tis F52 fu G53 Try.f52 [.nils, .func 71 [.ptr 0 0 0]] [.var [.ptr 1 0 0], .var [.nils, .int .i64 rw, .int .i64 rg, .int .i64 rn, .int .i64 nw, .bool ov]] k =
  (loopRun (C_rix1 fu rw rg rn nw ov) G53 S.rix1_b0 fu (S.rix1_s0 rw rg rn nw ov) (contOf (C_rix1 fu rw rg rn nw ov) G53 (bodyOf Try.f52) [1, 0, 1, 0] (retK tis F52 Try.f52 (List.length ([.var [.ptr 1 0 0], .var [.nils, .int .i64 rw, .int .i64 rg, .int .i64 rn, .int .i64 nw, .bool ov]] : List Blk)) k))) := by kernel_rfl
noncomputable def S.rix1 (fu : Nat) (rw rg rn nw : Int) (ov : Bool) : Option (Int) :=
  optK (S.rix1_l0 fu rw rg rn nw ov fu) (fun z : Unit => S.rix1_a0_0 fu rw rg rn nw ov)
theorem S.rix1_v {R : Type} (fu : Nat) (rw rg rn nw : Int) (ov : Bool) (k : AVal → List Blk → Option R) : fnEval tis F52 fu G53 Try.f52 [.nils, .func 71 [.ptr 0 0 0]] [.var [.ptr 1 0 0], .var [.nils, .int .i64 rw, .int .i64 rg, .int .i64 rn, .int .i64 nw, .bool ov]] k = oK (fun v : Int => k (.int .i64 v) [.var [.ptr 1 0 0], .var [.nils, .int .i64 rw, .int .i64 rg, .int .i64 rn, .int .i64 nw, .bool ov]]) (S.rix1 fu rw rg rn nw ov) :=
  (S.rix1_k fu rw rg rn nw ov k).trans (arr_lift (S.rix1_l0_v fu rw rg rn nw ov (contOf (C_rix1 fu rw rg rn nw ov) G53 (bodyOf Try.f52) [1, 0, 1, 0] (retK tis F52 Try.f52 (List.length ([.var [.ptr 1 0 0], .var [.nils, .int .i64 rw, .int .i64 rg, .int .i64 rn, .int .i64 nw, .bool ov]] : List Blk)) k)) fu) ((fun z => S.rix1_a0_0_v fu rw rg rn nw ov k)))
noncomputable def C_rix2 (fu : Nat) (l : FL) (f : BL) (lo len : Nat) (a : Int) : Cfg := Cfg.of tis F52 fu (List.length ([.fam 80 (.pair (.int .i64) (.pair (.int .i64) (.pair (.int .i64) .bool))) l f, .var [.int .i64 a]] : List Blk)) Try.f52.ntmps
noncomputable def S.rix2_b0 : Code := codeAt (bodyOf Try.f52) [1, 0, 1, 0, 0]
noncomputable def S.rix2_s0 (l : FL) (f : BL) (lo len : Nat) (a : Int) (y0 : Int) : St := ⟨[(0, (.slice 1 0 (lo) (len) none)), (1, (.func 53 [(.ptr 1 (0) 0)])), (7, (.int .i64 (((len : Nat) : Int)))), (8, (.int .i64 (y0)))], [(.fam 80 (Cd.pair (Cd.int .i64) (Cd.pair (Cd.int .i64) (Cd.pair (Cd.int .i64) Cd.bool))) (l) (f)), (.var [(.int .i64 (a))])]⟩
noncomputable def S.rix2_x0_0 (l : FL) (f : BL) (lo len : Nat) (a : Int) (z0 : Int) : St := ⟨[(4, (.int .i64 (z0)))], [(.fam 80 (Cd.pair (Cd.int .i64) (Cd.pair (Cd.int .i64) (Cd.pair (Cd.int .i64) Cd.bool))) (l) (f)), (.var [(.int .i64 (a))])]⟩
noncomputable def S.rix2_x0_1 (l : FL) (f : BL) (lo len : Nat) (a : Int) (z0 : Int) (z1 : Bool) : St := ⟨[(0, (.slice 1 0 (lo) (len) none)), (1, (.func 53 [(.ptr 1 (0) 0)])), (7, (.int .i64 (((len : Nat) : Int)))), (8, (.int .i64 (z0))), (9, (.bool (z1)))], [(.fam 80 (Cd.pair (Cd.int .i64) (Cd.pair (Cd.int .i64) (Cd.pair (Cd.int .i64) Cd.bool))) (l) (f)), (.var [(.int .i64 (a))])]⟩
noncomputable def S.rix2_g0 {R : Type} (l : FL) (f : BL) (lo len : Nat) (a : Int) (K : Ex → St → Option R) : ((Int) ⊕ (Int × Bool)) → Option R := (Sum.elim (fun z : Int => K (Ex.ret) (S.rix2_x0_0 l f lo len a (z))) (fun z : Int × Bool => K (Ex.exit 0) (S.rix2_x0_1 l f lo len a (z.1) (z.2))))
noncomputable def S.rix2_gk {R : Type} (l : FL) (f : BL) (lo len : Nat) (a : Int) (k : AVal → List Blk → Option R) : (Int) → Option R := (fun v : Int => k (.int .i64 v) [.fam 80 (.pair (.int .i64) (.pair (.int .i64) (.pair (.int .i64) .bool))) l f, .var [.int .i64 a]])
theorem S.rix2_l0_k {R : Type} (fu : Nat) (l : FL) (f : BL) (lo len : Nat) (a : Int) (n : Nat) (K : Ex → St → Option R) (y0 : Int) : loopRun (C_rix2 fu l f lo len a) G53 S.rix2_b0 (n + 1) (S.rix2_s0 l f lo len a (y0)) K =
  (bif decide (y0 < ((len : Nat) : Int)) then
   bif inB y0 len then
   (optK (l[Int.toNat y0 + lo]?) fun o4 =>
   (optK (o4) fun o5 =>
   (optK (S.rhere l f o5 a) fun o6 =>
   bif o6 then
   K (Ex.ret) (S.rix2_x0_0 l f lo len a (y0))
 else
   loopRun (C_rix2 fu l f lo len a) G53 S.rix2_b0 n (S.rix2_s0 l f lo len a (Go.IntKind.wrap .i64 (y0 + 1))) K)))
 else
   none
 else
   K (Ex.exit 0) (S.rix2_x0_1 l f lo len a (y0) (decide (y0 < ((len : Nat) : Int))))) := by kernel_rfl
noncomputable def S.rix2_l0 (fu : Nat) (l : FL) (f : BL) (lo len : Nat) (a : Int) : Nat → (Int) → Option ((Int) ⊕ (Int × Bool))
  | 0, _ => none
  | n + 1, y0 =>
    bif decide (y0 < ((len : Nat) : Int)) then
   bif inB y0 len then
   (optK (l[Int.toNat y0 + lo]?) fun o4 =>
   (optK (o4) fun o5 =>
   (optK (S.rhere l f o5 a) fun o6 =>
   bif o6 then
   some (.inl (y0))
 else
   (S.rix2_l0 fu l f lo len a n) (Go.IntKind.wrap .i64 (y0 + 1)))))
 else
   none
 else
   some (.inr (y0, decide (y0 < ((len : Nat) : Int))))
theorem S.rix2_l0_v {R : Type} (fu : Nat) (l : FL) (f : BL) (lo len : Nat) (a : Int) (K : Ex → St → Option R) : ∀ (n : Nat) (y0 : Int), loopRun (C_rix2 fu l f lo len a) G53 S.rix2_b0 n (S.rix2_s0 l f lo len a (y0)) K = oK (β := (Int) ⊕ (Int × Bool)) (S.rix2_g0 l f lo len a K) (S.rix2_l0 fu l f lo len a n y0)
  | 0, _ => rfl
  | n + 1, y0 => (S.rix2_l0_k fu l f lo len a n K y0).trans (bif_lift (f := (oK (S.rix2_g0 l f lo len a K))) (bif_lift (f := (oK (S.rix2_g0 l f lo len a K))) (opt_lift fun o4 => (opt_lift fun o5 => (opt_lift fun o6 => (bif_lift (f := (oK (S.rix2_g0 l f lo len a K))) rfl (S.rix2_l0_v fu l f lo len a K n (Go.IntKind.wrap .i64 (y0 + 1))))))) rfl) rfl)
theorem S.rix2_a0_1_k {R : Type} (fu : Nat) (l : FL) (f : BL) (lo len : Nat) (a : Int) (z0 : Int) (z1 : Bool) (k : AVal → List Blk → Option R) : contOf (C_rix2 fu l f lo len a) G53 (bodyOf Try.f52) [1, 0, 1, 0] (retK tis F52 Try.f52 (List.length ([.fam 80 (.pair (.int .i64) (.pair (.int .i64) (.pair (.int .i64) .bool))) l f, .var [.int .i64 a]] : List Blk)) k) (Ex.exit 0) (S.rix2_x0_1 l f lo len a (z0) (z1)) =
  (k (.int .i64 (-1)) ([.fam 80 (Cd.pair (Cd.int .i64) (Cd.pair (Cd.int .i64) (Cd.pair (Cd.int .i64) Cd.bool))) l f, .var [.int .i64 a]])) := by kernel_rfl
noncomputable def S.rix2_a0_1 (fu : Nat) (l : FL) (f : BL) (lo len : Nat) (a : Int) (z0 : Int) (z1 : Bool) : Option (Int) :=
  some (-1)
theorem S.rix2_a0_1_v {R : Type} (fu : Nat) (l : FL) (f : BL) (lo len : Nat) (a : Int) (z0 : Int) (z1 : Bool) (k : AVal → List Blk → Option R) : contOf (C_rix2 fu l f lo len a) G53 (bodyOf Try.f52) [1, 0, 1, 0] (retK tis F52 Try.f52 (List.length ([.fam 80 (.pair (.int .i64) (.pair (.int .i64) (.pair (.int .i64) .bool))) l f, .var [.int .i64 a]] : List Blk)) k) (Ex.exit 0) (S.rix2_x0_1 l f lo len a (z0) (z1)) = oK (S.rix2_gk l f lo len a k) (S.rix2_a0_1 fu l f lo len a z0 z1) :=
  (S.rix2_a0_1_k fu l f lo len a z0 z1 k).trans rfl
theorem S.rix2_a0_0_k {R : Type} (fu : Nat) (l : FL) (f : BL) (lo len : Nat) (a : Int) (z0 : Int) (k : AVal → List Blk → Option R) : contOf (C_rix2 fu l f lo len a) G53 (bodyOf Try.f52) [1, 0, 1, 0] (retK tis F52 Try.f52 (List.length ([.fam 80 (.pair (.int .i64) (.pair (.int .i64) (.pair (.int .i64) .bool))) l f, .var [.int .i64 a]] : List Blk)) k) (Ex.ret) (S.rix2_x0_0 l f lo len a (z0)) =
  (k (.int .i64 z0) ([.fam 80 (Cd.pair (Cd.int .i64) (Cd.pair (Cd.int .i64) (Cd.pair (Cd.int .i64) Cd.bool))) l f, .var [.int .i64 a]])) := by kernel_rfl
noncomputable def S.rix2_a0_0 (fu : Nat) (l : FL) (f : BL) (lo len : Nat) (a : Int) (z0 : Int) : Option (Int) :=
  some (z0)
theorem S.rix2_a0_0_v {R : Type} (fu : Nat) (l : FL) (f : BL) (lo len : Nat) (a : Int) (z0 : Int) (k : AVal → List Blk → Option R) : contOf (C_rix2 fu l f lo len a) G53 (bodyOf Try.f52) [1, 0, 1, 0] (retK tis F52 Try.f52 (List.length ([.fam 80 (.pair (.int .i64) (.pair (.int .i64) (.pair (.int .i64) .bool))) l f, .var [.int .i64 a]] : List Blk)) k) (Ex.ret) (S.rix2_x0_0 l f lo len a (z0)) = oK (S.rix2_gk l f lo len a k) (S.rix2_a0_0 fu l f lo len a z0) :=
  (S.rix2_a0_0_k fu l f lo len a z0 k).trans rfl
theorem S.rix2_k {R : Type} (fu : Nat) (l : FL) (f : BL) (lo len : Nat) (a : Int) (k : AVal → List Blk → Option R) : fnEval tis F52 fu G53 Try.f52 [.slice 1 0 lo len none, .func 53 [.ptr 1 0 0]] [.fam 80 (.pair (.int .i64) (.pair (.int .i64) (.pair (.int .i64) .bool))) l f, .var [.int .i64 a]] k =
  (loopRun (C_rix2 fu l f lo len a) G53 S.rix2_b0 fu (S.rix2_s0 l f lo len a (0)) (contOf (C_rix2 fu l f lo len a) G53 (bodyOf Try.f52) [1, 0, 1, 0] (retK tis F52 Try.f52 (List.length ([.fam 80 (.pair (.int .i64) (.pair (.int .i64) (.pair (.int .i64) .bool))) l f, .var [.int .i64 a]] : List Blk)) k))) := by kernel_rfl
noncomputable def S.rix2 (fu : Nat) (l : FL) (f : BL) (lo len : Nat) (a : Int) : Option (Int) :=
  optK (S.rix2_l0 fu l f lo len a fu (0)) (Sum.elim (fun z : Int => S.rix2_a0_0 fu l f lo len a (z)) (fun z : Int × Bool => S.rix2_a0_1 fu l f lo len a (z.1) (z.2)))
theorem S.rix2_v {R : Type} (fu : Nat) (l : FL) (f : BL) (lo len : Nat) (a : Int) (k : AVal → List Blk → Option R) : fnEval tis F52 fu G53 Try.f52 [.slice 1 0 lo len none, .func 53 [.ptr 1 0 0]] [.fam 80 (.pair (.int .i64) (.pair (.int .i64) (.pair (.int .i64) .bool))) l f, .var [.int .i64 a]] k = oK (fun v : Int => k (.int .i64 v) [.fam 80 (.pair (.int .i64) (.pair (.int .i64) (.pair (.int .i64) .bool))) l f, .var [.int .i64 a]]) (S.rix2 fu l f lo len a) :=
  (S.rix2_k fu l f lo len a k).trans (arr_lift (S.rix2_l0_v fu l f lo len a (contOf (C_rix2 fu l f lo len a) G53 (bodyOf Try.f52) [1, 0, 1, 0] (retK tis F52 Try.f52 (List.length ([.fam 80 (.pair (.int .i64) (.pair (.int .i64) (.pair (.int .i64) .bool))) l f, .var [.int .i64 a]] : List Blk)) k)) fu (0)) ((sum_lift (fun z => S.rix2_a0_0_v fu l f lo len a (z) k) (fun z => S.rix2_a0_1_v fu l f lo len a (z.1) (z.2) k))))
noncomputable def C_rix3 (fu : Nat) (a : Int) : Cfg := Cfg.of tis F52 fu (List.length ([.var [.int .i64 a]] : List Blk)) Try.f52.ntmps
noncomputable def S.rix3_b0 : Code := codeAt (bodyOf Try.f52) [1, 0, 1, 0, 0]
noncomputable def S.rix3_s0 (a : Int)  : St := ⟨[(0, .nils), (1, (.func 53 [(.ptr 0 (0) 0)])), (7, (.int .i64 (0))), (8, (.int .i64 (0)))], [(.var [(.int .i64 (a))])]⟩
noncomputable def S.rix3_x0_0 (a : Int)  : St := ⟨[(0, .nils), (1, (.func 53 [(.ptr 0 (0) 0)])), (7, (.int .i64 (0))), (8, (.int .i64 (0))), (9, (.bool (false)))], [(.var [(.int .i64 (a))])]⟩
noncomputable def S.rix3_g0 {R : Type} (a : Int) (K : Ex → St → Option R) : ((Unit)) → Option R := (fun z : Unit => K (Ex.exit 0) (S.rix3_x0_0 a))
noncomputable def S.rix3_gk {R : Type} (a : Int) (k : AVal → List Blk → Option R) : (Int) → Option R := (fun v : Int => k (.int .i64 v) [.var [.int .i64 a]])
theorem S.rix3_l0_k {R : Type} (fu : Nat) (a : Int) (n : Nat) (K : Ex → St → Option R)  : loopRun (C_rix3 fu a) G53 S.rix3_b0 (n + 1) (S.rix3_s0 a) K =
  (K (Ex.exit 0) (S.rix3_x0_0 a)) := by kernel_rfl
noncomputable def S.rix3_l0 (fu : Nat) (a : Int) : Nat → Option ((Unit))
  | 0 => none
  | n + 1 =>
    some ()
theorem S.rix3_l0_v {R : Type} (fu : Nat) (a : Int) (K : Ex → St → Option R) : ∀ (n : Nat) , loopRun (C_rix3 fu a) G53 S.rix3_b0 n (S.rix3_s0 a) K = oK (β := (Unit)) (S.rix3_g0 a K) (S.rix3_l0 fu a n)
  | 0 => rfl
  | n + 1 => (S.rix3_l0_k fu a n K).trans rfl
theorem S.rix3_a0_0_k {R : Type} (fu : Nat) (a : Int)  (k : AVal → List Blk → Option R) : contOf (C_rix3 fu a) G53 (bodyOf Try.f52) [1, 0, 1, 0] (retK tis F52 Try.f52 (List.length ([.var [.int .i64 a]] : List Blk)) k) (Ex.exit 0) (S.rix3_x0_0 a) =
  (k (.int .i64 (-1)) ([.var [.int .i64 a]])) := by kernel_rfl
noncomputable def S.rix3_a0_0 (fu : Nat) (a : Int)  : Option (Int) :=
  some (-1)
theorem S.rix3_a0_0_v {R : Type} (fu : Nat) (a : Int)  (k : AVal → List Blk → Option R) : contOf (C_rix3 fu a) G53 (bodyOf Try.f52) [1, 0, 1, 0] (retK tis F52 Try.f52 (List.length ([.var [.int .i64 a]] : List Blk)) k) (Ex.exit 0) (S.rix3_x0_0 a) = oK (S.rix3_gk a k) (S.rix3_a0_0 fu a) :=
  (S.rix3_a0_0_k fu a k).trans rfl
theorem S.rix3_k {R : Type} (fu : Nat) (a : Int) (k : AVal → List Blk → Option R) : fnEval tis F52 fu G53 Try.f52 [.nils, .func 53 [.ptr 0 0 0]] [.var [.int .i64 a]] k =
  (loopRun (C_rix3 fu a) G53 S.rix3_b0 fu (S.rix3_s0 a) (contOf (C_rix3 fu a) G53 (bodyOf Try.f52) [1, 0, 1, 0] (retK tis F52 Try.f52 (List.length ([.var [.int .i64 a]] : List Blk)) k))) := by kernel_rfl
noncomputable def S.rix3 (fu : Nat) (a : Int) : Option (Int) :=
  optK (S.rix3_l0 fu a fu) (fun z : Unit => S.rix3_a0_0 fu a)
theorem S.rix3_v {R : Type} (fu : Nat) (a : Int) (k : AVal → List Blk → Option R) : fnEval tis F52 fu G53 Try.f52 [.nils, .func 53 [.ptr 0 0 0]] [.var [.int .i64 a]] k = oK (fun v : Int => k (.int .i64 v) [.var [.int .i64 a]]) (S.rix3 fu a) :=
  (S.rix3_k fu a k).trans (arr_lift (S.rix3_l0_v fu a (contOf (C_rix3 fu a) G53 (bodyOf Try.f52) [1, 0, 1, 0] (retK tis F52 Try.f52 (List.length ([.var [.int .i64 a]] : List Blk)) k)) fu) ((fun z => S.rix3_a0_0_v fu a k)))
noncomputable def H52 : Hnd := fun R args σ k => match args, σ with
  | [.slice 1 0 lo len none, .func 71 [.ptr 1 0 0]], [.fam 80 (.pair (.int .i64) (.pair (.int .i64) (.pair (.int .i64) .bool))) l f, .var [.ptr 2 0 0], .var [.slice 1 0 lo2 len2 none, .int .i64 rw, .int .i64 rg, .int .i64 rn, .int .i64 nw, .bool ov]] => oK (fun v : Int => k (.int .i64 v) []) (S.rix 100000 l f lo len lo2 len2 rw rg rn nw ov)
  | [.nils, .func 71 [.ptr 0 0 0]], [.var [.ptr 1 0 0], .var [.nils, .int .i64 rw, .int .i64 rg, .int .i64 rn, .int .i64 nw, .bool ov]] => oK (fun v : Int => k (.int .i64 v) []) (S.rix1 100000 rw rg rn nw ov)
  | [.slice 1 0 lo len none, .func 53 [.ptr 1 0 0]], [.fam 80 (.pair (.int .i64) (.pair (.int .i64) (.pair (.int .i64) .bool))) l f, .var [.int .i64 a]] => oK (fun v : Int => k (.int .i64 v) []) (S.rix2 100000 l f lo len a)
  | [.nils, .func 53 [.ptr 0 0 0]], [.var [.int .i64 a]] => oK (fun v : Int => k (.int .i64 v) []) (S.rix3 100000 a)
  | _, _ => none
theorem H52_ok : HndOk Try.prog 52 H52 := hnd_ok_pure tis tisOk mixOk G53_ok F52 Try.func52 rfl (by
  intro R args σ k r h
  unfold H52 at h
  split at h
  · rename_i lo len l f lo2 len2 rw rg rn nw ov; exact ⟨100000, (S.rix_v 100000 l f lo len lo2 len2 rw rg rn nw ov _).trans ((congrArg (fun g9 => oK g9 (S.rix 100000 l f lo len lo2 len2 rw rg rn nw ov)) (funext fun v => if_pos rfl)).trans h)⟩
  · rename_i rw rg rn nw ov; exact ⟨100000, (S.rix1_v 100000 rw rg rn nw ov _).trans ((congrArg (fun g9 => oK g9 (S.rix1 100000 rw rg rn nw ov)) (funext fun v => if_pos rfl)).trans h)⟩
  · rename_i lo len l f a; exact ⟨100000, (S.rix2_v 100000 l f lo len a _).trans ((congrArg (fun g9 => oK g9 (S.rix2 100000 l f lo len a)) (funext fun v => if_pos rfl)).trans h)⟩
  · rename_i a; exact ⟨100000, (S.rix3_v 100000 a _).trans ((congrArg (fun g9 => oK g9 (S.rix3 100000 a)) (funext fun v => if_pos rfl)).trans h)⟩
  · cases h)
noncomputable def G52 : Env := Env.add 52 H52 G53
theorem G52_ok : EnvOk Try.prog G52 := envAdd_ok H52_ok G53_ok

/-! slices.DeleteFunc[[]any,any] -/
def F70 : FCfg := ⟨keepAt [(0, [0, 1]), (1, [0, 1, 5]), (2, [0, 1, 5, 12]), (3, [4]), (4, [0, 1, 5, 6]), (5, [0, 1, 5, 6, 19]), (6, [0, 1, 5, 6]), (7, [0, 1, 5, 6, 7]), (8, [0, 1, 5, 6, 7, 29]), (9, [0, 1, 5, 6]), (10, [0, 1, 5, 6]), (11, [0, 5]), (12, [4])], loopAt [(5, [0, 1, 5, 6], [])], []⟩
noncomputable def C_rdel (fu : Nat) (l : FL) (f : BL) (lo len lo2 len2 : Nat) (rw rg rn nw : Int) (ov : Bool) : Cfg := Cfg.of tis F70 fu (List.length ([.fam 80 (.pair (.int .i64) (.pair (.int .i64) (.pair (.int .i64) .bool))) l f, .var [.ptr 2 0 0], .var [.slice 1 0 lo2 len2 none, .int .i64 rw, .int .i64 rg, .int .i64 rn, .int .i64 nw, .bool ov]] : List Blk)) Try.f70.ntmps
noncomputable def S.rdel_b0 : Code := codeAt (bodyOf Try.f70) [1, 1, 1, 0, 1, 0, 0]
noncomputable def S.rdel_s0 (l : FL) (f : BL) (lo len lo2 len2 : Nat) (rw rg rn nw : Int) (ov : Bool) (y0 : Int) (y1 : Int) (y2 : List (Option Nat)) : St := ⟨[(0, (.slice 1 0 (lo) (len) none)), (1, (.func 71 [(.ptr 1 (0) 0)])), (5, (.int .i64 (y0))), (6, (.int .i64 (y1)))], [(.fam 80 (Cd.pair (Cd.int .i64) (Cd.pair (Cd.int .i64) (Cd.pair (Cd.int .i64) Cd.bool))) (y2) (f)), (.var [(.ptr 2 (0) 0)]), (.var [(.slice 1 0 (lo2) (len2) none), (.int .i64 (rw)), (.int .i64 (rg)), (.int .i64 (rn)), (.int .i64 (nw)), (.bool (ov))])]⟩
noncomputable def S.rdel_x0_0 (l : FL) (f : BL) (lo len lo2 len2 : Nat) (rw rg rn nw : Int) (ov : Bool) (z0 : Int) (z1 : Int) (z2 : Bool) (z3 : List (Option Nat)) : St := ⟨[(0, (.slice 1 0 (lo) (len) none)), (1, (.func 71 [(.ptr 1 (0) 0)])), (5, (.int .i64 (z0))), (6, (.int .i64 (z1))), (19, (.bool (z2)))], [(.fam 80 (Cd.pair (Cd.int .i64) (Cd.pair (Cd.int .i64) (Cd.pair (Cd.int .i64) Cd.bool))) (z3) (f)), (.var [(.ptr 2 (0) 0)]), (.var [(.slice 1 0 (lo2) (len2) none), (.int .i64 (rw)), (.int .i64 (rg)), (.int .i64 (rn)), (.int .i64 (nw)), (.bool (ov))])]⟩
noncomputable def S.rdel_g0 {R : Type} (l : FL) (f : BL) (lo len lo2 len2 : Nat) (rw rg rn nw : Int) (ov : Bool) (K : Ex → St → Option R) : ((Int × Int × Bool × List (Option Nat))) → Option R := (fun z : Int × Int × Bool × List (Option Nat) => K (Ex.exit 0) (S.rdel_x0_0 l f lo len lo2 len2 rw rg rn nw ov (z.1) (z.2.1) (z.2.2.1) (z.2.2.2)))
noncomputable def S.rdel_gk {R : Type} (l : FL) (f : BL) (lo len lo2 len2 : Nat) (rw rg rn nw : Int) (ov : Bool) (k : AVal → List Blk → Option R) : (Nat × Nat × List (Option Nat) × BL × Nat × Nat × Int × Int × Int × Int × Bool) → Option R := (fun v : Nat × Nat × List (Option Nat) × BL × Nat × Nat × Int × Int × Int × Int × Bool => k (.slice 1 0 v.1 v.2.1 none) [(.fam 80 (Cd.pair (Cd.int .i64) (Cd.pair (Cd.int .i64) (Cd.pair (Cd.int .i64) Cd.bool))) v.2.2.1 v.2.2.2.1), (.var [(.ptr 2 (0) 0)]), (.var [(.slice 1 0 v.2.2.2.2.1 v.2.2.2.2.2.1 none), (.int .i64 v.2.2.2.2.2.2.1), (.int .i64 v.2.2.2.2.2.2.2.1), (.int .i64 v.2.2.2.2.2.2.2.2.1), (.int .i64 v.2.2.2.2.2.2.2.2.2.1), (.bool v.2.2.2.2.2.2.2.2.2.2)])])
theorem S.rdel_l0_k {R : Type} (fu : Nat) (l : FL) (f : BL) (lo len lo2 len2 : Nat) (rw rg rn nw : Int) (ov : Bool) (n : Nat) (K : Ex → St → Option R) (y0 : Int) (y1 : Int) (y2 : List (Option Nat)) : loopRun (C_rdel fu l f lo len lo2 len2 rw rg rn nw ov) G52 S.rdel_b0 (n + 1) (S.rdel_s0 l f lo len lo2 len2 rw rg rn nw ov (y0) (y1) (y2)) K =
  (bif decide (y1 < ((len : Nat) : Int)) then
   bif inB y1 len then
   (optK (y2[Int.toNat y1 + lo]?) fun o4 =>
   (optK (o4) fun o5 =>
   (optK (S.rgone y2 f o5 lo2 len2 rw rg rn nw ov) fun o6 =>
   bif !o6 then
   bif inB y0 len then
   bif true && Nat.blt (Int.toNat y0 + lo) (List.length y2) then
   loopRun (C_rdel fu l f lo len lo2 len2 rw rg rn nw ov) G52 S.rdel_b0 n (S.rdel_s0 l f lo len lo2 len2 rw rg rn nw ov (Go.IntKind.wrap .i64 (y0 + 1)) (Go.IntKind.wrap .i64 (y1 + 1)) (List.set y2 (Int.toNat y0 + lo) (Option.some o5))) K
 else
   none
 else
   none
 else
   loopRun (C_rdel fu l f lo len lo2 len2 rw rg rn nw ov) G52 S.rdel_b0 n (S.rdel_s0 l f lo len lo2 len2 rw rg rn nw ov (y0) (Go.IntKind.wrap .i64 (y1 + 1)) (y2)) K)))
 else
   none
 else
   K (Ex.exit 0) (S.rdel_x0_0 l f lo len lo2 len2 rw rg rn nw ov (y0) (y1) (decide (y1 < ((len : Nat) : Int))) (y2))) := by kernel_rfl
noncomputable def S.rdel_l0 (fu : Nat) (l : FL) (f : BL) (lo len lo2 len2 : Nat) (rw rg rn nw : Int) (ov : Bool) : Nat → (Int) → (Int) → (List (Option Nat)) → Option ((Int × Int × Bool × List (Option Nat)))
  | 0, _, _, _ => none
  | n + 1, y0, y1, y2 =>
    bif decide (y1 < ((len : Nat) : Int)) then
   bif inB y1 len then
   (optK (y2[Int.toNat y1 + lo]?) fun o4 =>
   (optK (o4) fun o5 =>
   (optK (S.rgone y2 f o5 lo2 len2 rw rg rn nw ov) fun o6 =>
   bif !o6 then
   bif inB y0 len then
   bif true && Nat.blt (Int.toNat y0 + lo) (List.length y2) then
   (S.rdel_l0 fu l f lo len lo2 len2 rw rg rn nw ov n) (Go.IntKind.wrap .i64 (y0 + 1)) (Go.IntKind.wrap .i64 (y1 + 1)) (List.set y2 (Int.toNat y0 + lo) (Option.some o5))
 else
   none
 else
   none
 else
   (S.rdel_l0 fu l f lo len lo2 len2 rw rg rn nw ov n) (y0) (Go.IntKind.wrap .i64 (y1 + 1)) (y2))))
 else
   none
 else
   some (y0, y1, decide (y1 < ((len : Nat) : Int)), y2)
theorem S.rdel_l0_v {R : Type} (fu : Nat) (l : FL) (f : BL) (lo len lo2 len2 : Nat) (rw rg rn nw : Int) (ov : Bool) (K : Ex → St → Option R) : ∀ (n : Nat) (y0 : Int) (y1 : Int) (y2 : List (Option Nat)), loopRun (C_rdel fu l f lo len lo2 len2 rw rg rn nw ov) G52 S.rdel_b0 n (S.rdel_s0 l f lo len lo2 len2 rw rg rn nw ov (y0) (y1) (y2)) K = oK (β := (Int × Int × Bool × List (Option Nat))) (S.rdel_g0 l f lo len lo2 len2 rw rg rn nw ov K) (S.rdel_l0 fu l f lo len lo2 len2 rw rg rn nw ov n y0 y1 y2)
  | 0, _, _, _ => rfl
  | n + 1, y0, y1, y2 => (S.rdel_l0_k fu l f lo len lo2 len2 rw rg rn nw ov n K y0 y1 y2).trans (bif_lift (f := (oK (S.rdel_g0 l f lo len lo2 len2 rw rg rn nw ov K))) (bif_lift (f := (oK (S.rdel_g0 l f lo len lo2 len2 rw rg rn nw ov K))) (opt_lift fun o4 => (opt_lift fun o5 => (opt_lift fun o6 => (bif_lift (f := (oK (S.rdel_g0 l f lo len lo2 len2 rw rg rn nw ov K))) (bif_lift (f := (oK (S.rdel_g0 l f lo len lo2 len2 rw rg rn nw ov K))) (bif_lift (f := (oK (S.rdel_g0 l f lo len lo2 len2 rw rg rn nw ov K))) (S.rdel_l0_v fu l f lo len lo2 len2 rw rg rn nw ov K n (Go.IntKind.wrap .i64 (y0 + 1)) (Go.IntKind.wrap .i64 (y1 + 1)) (List.set y2 (Int.toNat y0 + lo) (Option.some o5))) rfl) rfl) (S.rdel_l0_v fu l f lo len lo2 len2 rw rg rn nw ov K n (y0) (Go.IntKind.wrap .i64 (y1 + 1)) (y2)))))) rfl) rfl)
theorem S.rdel_a0_0_k {R : Type} (fu : Nat) (l : FL) (f : BL) (lo len lo2 len2 : Nat) (rw rg rn nw : Int) (ov : Bool) (z0 : Int) (z1 : Int) (z2 : Bool) (z3 : List (Option Nat)) (k : AVal → List Blk → Option R) : contOf (C_rdel fu l f lo len lo2 len2 rw rg rn nw ov) G52 (bodyOf Try.f70) [1, 1, 1, 0, 1, 0] (retK tis F70 Try.f70 (List.length ([.fam 80 (.pair (.int .i64) (.pair (.int .i64) (.pair (.int .i64) .bool))) l f, .var [.ptr 2 0 0], .var [.slice 1 0 lo2 len2 none, .int .i64 rw, .int .i64 rg, .int .i64 rn, .int .i64 nw, .bool ov]] : List Blk)) k) (Ex.exit 0) (S.rdel_x0_0 l f lo len lo2 len2 rw rg rn nw ov (z0) (z1) (z2) (z3)) =
  (bif decide (0 ≤ z0 ∧ z0 ≤ ((len : Nat) : Int)) then
   bif Nat.ble (Int.toNat z0 + lo + (len - Int.toNat z0)) (List.length z3) then
   bif decide (0 ≤ z0 ∧ z0 ≤ ((len : Nat) : Int)) then
   k (.slice 1 0 lo (Int.toNat z0) Option.none) ([.fam 80 (Cd.pair (Cd.int .i64) (Cd.pair (Cd.int .i64) (Cd.pair (Cd.int .i64) Cd.bool))) (List.take (Int.toNat z0 + lo) z3 ++ fillRows Option.none (len - Int.toNat z0) (List.drop (Int.toNat z0 + lo) z3)) f, .var [.ptr 2 0 0], .var [.slice 1 0 lo2 len2 Option.none, .int .i64 rw, .int .i64 rg, .int .i64 rn, .int .i64 nw, .bool ov]])
 else
   none
 else
   none
 else
   none) := by kernel_rfl
noncomputable def S.rdel_a0_0 (fu : Nat) (l : FL) (f : BL) (lo len lo2 len2 : Nat) (rw rg rn nw : Int) (ov : Bool) (z0 : Int) (z1 : Int) (z2 : Bool) (z3 : List (Option Nat)) : Option (Nat × Nat × List (Option Nat) × BL × Nat × Nat × Int × Int × Int × Int × Bool) :=
  bif decide (0 ≤ z0 ∧ z0 ≤ ((len : Nat) : Int)) then
   bif Nat.ble (Int.toNat z0 + lo + (len - Int.toNat z0)) (List.length z3) then
   bif decide (0 ≤ z0 ∧ z0 ≤ ((len : Nat) : Int)) then
   some (lo, Int.toNat z0, List.take (Int.toNat z0 + lo) z3 ++ fillRows Option.none (len - Int.toNat z0) (List.drop (Int.toNat z0 + lo) z3), f, lo2, len2, rw, rg, rn, nw, ov)
 else
   none
 else
   none
 else
   none
theorem S.rdel_a0_0_v {R : Type} (fu : Nat) (l : FL) (f : BL) (lo len lo2 len2 : Nat) (rw rg rn nw : Int) (ov : Bool) (z0 : Int) (z1 : Int) (z2 : Bool) (z3 : List (Option Nat)) (k : AVal → List Blk → Option R) : contOf (C_rdel fu l f lo len lo2 len2 rw rg rn nw ov) G52 (bodyOf Try.f70) [1, 1, 1, 0, 1, 0] (retK tis F70 Try.f70 (List.length ([.fam 80 (.pair (.int .i64) (.pair (.int .i64) (.pair (.int .i64) .bool))) l f, .var [.ptr 2 0 0], .var [.slice 1 0 lo2 len2 none, .int .i64 rw, .int .i64 rg, .int .i64 rn, .int .i64 nw, .bool ov]] : List Blk)) k) (Ex.exit 0) (S.rdel_x0_0 l f lo len lo2 len2 rw rg rn nw ov (z0) (z1) (z2) (z3)) = oK (S.rdel_gk l f lo len lo2 len2 rw rg rn nw ov k) (S.rdel_a0_0 fu l f lo len lo2 len2 rw rg rn nw ov z0 z1 z2 z3) :=
  (S.rdel_a0_0_k fu l f lo len lo2 len2 rw rg rn nw ov z0 z1 z2 z3 k).trans (bif_lift (f := (oK (S.rdel_gk l f lo len lo2 len2 rw rg rn nw ov k))) (bif_lift (f := (oK (S.rdel_gk l f lo len lo2 len2 rw rg rn nw ov k))) (bif_lift (f := (oK (S.rdel_gk l f lo len lo2 len2 rw rg rn nw ov k))) rfl rfl) rfl) rfl)
theorem S.rdel_k {R : Type} (fu : Nat) (l : FL) (f : BL) (lo len lo2 len2 : Nat) (rw rg rn nw : Int) (ov : Bool) (k : AVal → List Blk → Option R) : fnEval tis F70 fu G52 Try.f70 [.slice 1 0 lo len none, .func 71 [.ptr 1 0 0]] [.fam 80 (.pair (.int .i64) (.pair (.int .i64) (.pair (.int .i64) .bool))) l f, .var [.ptr 2 0 0], .var [.slice 1 0 lo2 len2 none, .int .i64 rw, .int .i64 rg, .int .i64 rn, .int .i64 nw, .bool ov]] k =
  ((optK (S.rix 100000 l f lo len lo2 len2 rw rg rn nw ov) fun o2 =>
   bif decide (o2 = -1) then
   k (.slice 1 0 lo len Option.none) ([.fam 80 (Cd.pair (Cd.int .i64) (Cd.pair (Cd.int .i64) (Cd.pair (Cd.int .i64) Cd.bool))) l f, .var [.ptr 2 0 0], .var [.slice 1 0 lo2 len2 Option.none, .int .i64 rw, .int .i64 rg, .int .i64 rn, .int .i64 nw, .bool ov]])
 else
   loopRun (C_rdel fu l f lo len lo2 len2 rw rg rn nw ov) G52 S.rdel_b0 fu (S.rdel_s0 l f lo len lo2 len2 rw rg rn nw ov (o2) (Go.IntKind.wrap .i64 (o2 + 1)) (l)) (contOf (C_rdel fu l f lo len lo2 len2 rw rg rn nw ov) G52 (bodyOf Try.f70) [1, 1, 1, 0, 1, 0] (retK tis F70 Try.f70 (List.length ([.fam 80 (.pair (.int .i64) (.pair (.int .i64) (.pair (.int .i64) .bool))) l f, .var [.ptr 2 0 0], .var [.slice 1 0 lo2 len2 none, .int .i64 rw, .int .i64 rg, .int .i64 rn, .int .i64 nw, .bool ov]] : List Blk)) k)))) := by kernel_rfl
noncomputable def S.rdel (fu : Nat) (l : FL) (f : BL) (lo len lo2 len2 : Nat) (rw rg rn nw : Int) (ov : Bool) : Option (Nat × Nat × List (Option Nat) × BL × Nat × Nat × Int × Int × Int × Int × Bool) :=
  (optK (S.rix 100000 l f lo len lo2 len2 rw rg rn nw ov) fun o2 =>
   bif decide (o2 = -1) then
   some (lo, len, l, f, lo2, len2, rw, rg, rn, nw, ov)
 else
   optK (S.rdel_l0 fu l f lo len lo2 len2 rw rg rn nw ov fu (o2) (Go.IntKind.wrap .i64 (o2 + 1)) (l)) (fun z : Int × Int × Bool × List (Option Nat) => S.rdel_a0_0 fu l f lo len lo2 len2 rw rg rn nw ov (z.1) (z.2.1) (z.2.2.1) (z.2.2.2)))
theorem S.rdel_v {R : Type} (fu : Nat) (l : FL) (f : BL) (lo len lo2 len2 : Nat) (rw rg rn nw : Int) (ov : Bool) (k : AVal → List Blk → Option R) : fnEval tis F70 fu G52 Try.f70 [.slice 1 0 lo len none, .func 71 [.ptr 1 0 0]] [.fam 80 (.pair (.int .i64) (.pair (.int .i64) (.pair (.int .i64) .bool))) l f, .var [.ptr 2 0 0], .var [.slice 1 0 lo2 len2 none, .int .i64 rw, .int .i64 rg, .int .i64 rn, .int .i64 nw, .bool ov]] k = oK (fun v : Nat × Nat × List (Option Nat) × BL × Nat × Nat × Int × Int × Int × Int × Bool => k (.slice 1 0 v.1 v.2.1 none) [(.fam 80 (Cd.pair (Cd.int .i64) (Cd.pair (Cd.int .i64) (Cd.pair (Cd.int .i64) Cd.bool))) v.2.2.1 v.2.2.2.1), (.var [(.ptr 2 (0) 0)]), (.var [(.slice 1 0 v.2.2.2.2.1 v.2.2.2.2.2.1 none), (.int .i64 v.2.2.2.2.2.2.1), (.int .i64 v.2.2.2.2.2.2.2.1), (.int .i64 v.2.2.2.2.2.2.2.2.1), (.int .i64 v.2.2.2.2.2.2.2.2.2.1), (.bool v.2.2.2.2.2.2.2.2.2.2)])]) (S.rdel fu l f lo len lo2 len2 rw rg rn nw ov) :=
  (S.rdel_k fu l f lo len lo2 len2 rw rg rn nw ov k).trans (opt_lift fun o2 => (bif_lift (f := (oK (S.rdel_gk l f lo len lo2 len2 rw rg rn nw ov k))) rfl (arr_lift (S.rdel_l0_v fu l f lo len lo2 len2 rw rg rn nw ov (contOf (C_rdel fu l f lo len lo2 len2 rw rg rn nw ov) G52 (bodyOf Try.f70) [1, 1, 1, 0, 1, 0] (retK tis F70 Try.f70 (List.length ([.fam 80 (.pair (.int .i64) (.pair (.int .i64) (.pair (.int .i64) .bool))) l f, .var [.ptr 2 0 0], .var [.slice 1 0 lo2 len2 none, .int .i64 rw, .int .i64 rg, .int .i64 rn, .int .i64 nw, .bool ov]] : List Blk)) k)) fu (o2) (Go.IntKind.wrap .i64 (o2 + 1)) (l)) ((fun z => S.rdel_a0_0_v fu l f lo len lo2 len2 rw rg rn nw ov (z.1) (z.2.1) (z.2.2.1) (z.2.2.2) k)))))
noncomputable def C_rdel1 (fu : Nat) (rw rg rn nw : Int) (ov : Bool) : Cfg := Cfg.of tis F70 fu (List.length ([.var [.ptr 1 0 0], .var [.nils, .int .i64 rw, .int .i64 rg, .int .i64 rn, .int .i64 nw, .bool ov]] : List Blk)) Try.f70.ntmps
noncomputable def S.rdel1_b0 : Code := codeAt (bodyOf Try.f70) [1, 1, 1, 0, 1, 0, 0]
noncomputable def S.rdel1_gk {R : Type} (rw rg rn nw : Int) (ov : Bool) (k : AVal → List Blk → Option R) : (Int × Int × Int × Int × Bool) → Option R := (fun v : Int × Int × Int × Int × Bool => k .nils [(.var [(.ptr 1 (0) 0)]), (.var [.nils, (.int .i64 v.1), (.int .i64 v.2.1), (.int .i64 v.2.2.1), (.int .i64 v.2.2.2.1), (.bool v.2.2.2.2)])])
theorem S.rdel1_k {R : Type} (fu : Nat) (rw rg rn nw : Int) (ov : Bool) (k : AVal → List Blk → Option R) : fnEval tis F70 fu G52 Try.f70 [.nils, .func 71 [.ptr 0 0 0]] [.var [.ptr 1 0 0], .var [.nils, .int .i64 rw, .int .i64 rg, .int .i64 rn, .int .i64 nw, .bool ov]] k =
  (k (.nils) ([.var [.ptr 1 0 0], .var [.nils, .int .i64 rw, .int .i64 rg, .int .i64 rn, .int .i64 nw, .bool ov]])) := by kernel_rfl
noncomputable def S.rdel1 (fu : Nat) (rw rg rn nw : Int) (ov : Bool) : Option (Int × Int × Int × Int × Bool) :=
  some (rw, rg, rn, nw, ov)
theorem S.rdel1_v {R : Type} (fu : Nat) (rw rg rn nw : Int) (ov : Bool) (k : AVal → List Blk → Option R) : fnEval tis F70 fu G52 Try.f70 [.nils, .func 71 [.ptr 0 0 0]] [.var [.ptr 1 0 0], .var [.nils, .int .i64 rw, .int .i64 rg, .int .i64 rn, .int .i64 nw, .bool ov]] k = oK (fun v : Int × Int × Int × Int × Bool => k .nils [(.var [(.ptr 1 (0) 0)]), (.var [.nils, (.int .i64 v.1), (.int .i64 v.2.1), (.int .i64 v.2.2.1), (.int .i64 v.2.2.2.1), (.bool v.2.2.2.2)])]) (S.rdel1 fu rw rg rn nw ov) :=
  (S.rdel1_k fu rw rg rn nw ov k).trans rfl
noncomputable def H70 : Hnd := fun R args σ k => match args, σ with
  | [.slice 1 0 lo len none, .func 71 [.ptr 1 0 0]], [.fam 80 (.pair (.int .i64) (.pair (.int .i64) (.pair (.int .i64) .bool))) l f, .var [.ptr 2 0 0], .var [.slice 1 0 lo2 len2 none, .int .i64 rw, .int .i64 rg, .int .i64 rn, .int .i64 nw, .bool ov]] => oK (fun v : Nat × Nat × List (Option Nat) × BL × Nat × Nat × Int × Int × Int × Int × Bool => k (.slice 1 0 v.1 v.2.1 none) [(.fam 80 (Cd.pair (Cd.int .i64) (Cd.pair (Cd.int .i64) (Cd.pair (Cd.int .i64) Cd.bool))) v.2.2.1 v.2.2.2.1), (.var [(.ptr 2 (0) 0)]), (.var [(.slice 1 0 v.2.2.2.2.1 v.2.2.2.2.2.1 none), (.int .i64 v.2.2.2.2.2.2.1), (.int .i64 v.2.2.2.2.2.2.2.1), (.int .i64 v.2.2.2.2.2.2.2.2.1), (.int .i64 v.2.2.2.2.2.2.2.2.2.1), (.bool v.2.2.2.2.2.2.2.2.2.2)])]) (S.rdel 100000 l f lo len lo2 len2 rw rg rn nw ov)
  | [.nils, .func 71 [.ptr 0 0 0]], [.var [.ptr 1 0 0], .var [.nils, .int .i64 rw, .int .i64 rg, .int .i64 rn, .int .i64 nw, .bool ov]] => oK (fun v : Int × Int × Int × Int × Bool => k .nils [(.var [(.ptr 1 (0) 0)]), (.var [.nils, (.int .i64 v.1), (.int .i64 v.2.1), (.int .i64 v.2.2.1), (.int .i64 v.2.2.2.1), (.bool v.2.2.2.2)])]) (S.rdel1 100000 rw rg rn nw ov)
  | _, _ => none
theorem H70_ok : HndOk Try.prog 70 H70 := hnd_ok tis tisOk mixOk G52_ok F70 Try.func70 rfl (by
  intro R args σ k r h
  unfold H70 at h
  split at h
  · rename_i lo len l f lo2 len2 rw rg rn nw ov; exact ⟨100000, (S.rdel_v 100000 l f lo len lo2 len2 rw rg rn nw ov _).trans h⟩
  · rename_i rw rg rn nw ov; exact ⟨100000, (S.rdel1_v 100000 rw rg rn nw ov _).trans h⟩
  · cases h)
noncomputable def G70 : Env := Env.add 70 H70 G52
theorem G70_ok : EnvOk Try.prog G70 := envAdd_ok H70_ok G52_ok
end Go.Proofs.Ytdflpflffccmgaa.AB
