/- Rings, as plain functions. -/
import Derived.Test.YtmgnfjiogfcieaaTis
import Derived.Test.YtmgnfjiogfcieaaFwZ
namespace Go.Proofs.Ytmgnfjiogfcieaa.AB
set_option linter.unusedVariables false
abbrev FL : Type := List (Option Nat)
abbrev BL : Type := List (Int × Int × Int × Bool)
instance (k : IntKind) (n : Nat) : OfNat (Cd.El (.int k)) n := inferInstanceAs (OfNat Int n)

/-! milli.end -/
def F35 : FCfg := ⟨keepAt [(0, [0]), (1, [4, 5]), (2, [14]), (3, [2, 3]), (4, [2, 3])], loopAt [], []⟩
theorem S.mend_k {R : Type} (up : Bool) (k : AVal → List Blk → Option R) : fnEval tis F35 0 Env.none Try.f35 [.iface 4 (.bool up)] [] k =
  (bif up then
    k (.tuple [.int .i64 9223372036854775807, .int .i64 2]) ([])
  else
    k (.tuple [.int .i64 (-9223372036854775808), .int .i64 2]) ([])) := by kernel_rfl
def S.mend (up : Bool) : Int × Int :=
  bif up then
    (9223372036854775807, 2)
  else
    (-9223372036854775808, 2)
theorem S.mend_v {R : Type} (up : Bool) (k : AVal → List Blk → Option R) : fnEval tis F35 0 Env.none Try.f35 [.iface 4 (.bool up)] [] k = k (.tuple [(.int .i64 (S.mend up).1), (.int .i64 (S.mend up).2)]) [] :=
  (S.mend_k up k).trans (bif_lift (f := (fun v : Int × Int => k (.tuple [(.int .i64 v.1), (.int .i64 v.2)]) [])) rfl rfl)
def H35 : Hnd := fun R args σ k => match args, σ with
  | [.iface 4 (.bool up)], [] => k (.tuple [(.int .i64 (S.mend up).1), (.int .i64 (S.mend up).2)]) []
  | _, _ => none
theorem H35_ok : HndOk Try.prog 35 H35 := hnd_ok tis tisOk mixOk envNone_ok F35 Try.func35 rfl (by
  intro R args σ k r h
  unfold H35 at h
  split at h
  · rename_i up; exact ⟨0, (S.mend_v up _).trans h⟩
  · cases h)
def G35 : Env := Env.add 35 H35 Env.none
theorem G35_ok : EnvOk Try.prog G35 := envAdd_ok H35_ok envNone_ok

/-! milli.Add -/
def F29 : FCfg := ⟨keepAt [(0, [0, 1]), (1, [0, 1, 23]), (2, [4, 5]), (3, [4, 5])], loopAt [], []⟩
theorem S.madd_k {R : Type} (a b : Int) (k : AVal → List Blk → Option R) : fnEval tis F29 0 G35 Try.f29 [.int .i64 a, .int .i64 b] [] k =
  (bif decide (0 < b) then
    bif decide (Go.IntKind.wrap .i64 (9223372036854775807 - b) < a) then
      k (.tuple [.int .i64 (Prod.fst (S.mend (decide (0 < b)))), .int .i64 (Prod.snd (S.mend (decide (0 < b))))]) ([])
    else
      bif decide (b < 0) then
        bif decide (a < Go.IntKind.wrap .i64 (-9223372036854775808 - b)) then
          k (.tuple [.int .i64 (Prod.fst (S.mend (decide (0 < b)))), .int .i64 (Prod.snd (S.mend (decide (0 < b))))]) ([])
        else
          k (.tuple [.int .i64 (Go.IntKind.wrap .i64 (a + b)), .int .i64 0]) ([])
      else
        k (.tuple [.int .i64 (Go.IntKind.wrap .i64 (a + b)), .int .i64 0]) ([])
  else
    bif decide (b < 0) then
      bif decide (a < Go.IntKind.wrap .i64 (-9223372036854775808 - b)) then
        k (.tuple [.int .i64 (Prod.fst (S.mend (decide (0 < b)))), .int .i64 (Prod.snd (S.mend (decide (0 < b))))]) ([])
      else
        k (.tuple [.int .i64 (Go.IntKind.wrap .i64 (a + b)), .int .i64 0]) ([])
    else
      k (.tuple [.int .i64 (Go.IntKind.wrap .i64 (a + b)), .int .i64 0]) ([])) := by kernel_rfl
def S.madd (a b : Int) : Int × Int :=
  bif decide (0 < b) then
    bif decide (Go.IntKind.wrap .i64 (9223372036854775807 - b) < a) then
      (Prod.fst (S.mend (decide (0 < b))), Prod.snd (S.mend (decide (0 < b))))
    else
      bif decide (b < 0) then
        bif decide (a < Go.IntKind.wrap .i64 (-9223372036854775808 - b)) then
          (Prod.fst (S.mend (decide (0 < b))), Prod.snd (S.mend (decide (0 < b))))
        else
          (Go.IntKind.wrap .i64 (a + b), 0)
      else
        (Go.IntKind.wrap .i64 (a + b), 0)
  else
    bif decide (b < 0) then
      bif decide (a < Go.IntKind.wrap .i64 (-9223372036854775808 - b)) then
        (Prod.fst (S.mend (decide (0 < b))), Prod.snd (S.mend (decide (0 < b))))
      else
        (Go.IntKind.wrap .i64 (a + b), 0)
    else
      (Go.IntKind.wrap .i64 (a + b), 0)
theorem S.madd_v {R : Type} (a b : Int) (k : AVal → List Blk → Option R) : fnEval tis F29 0 G35 Try.f29 [.int .i64 a, .int .i64 b] [] k = k (.tuple [(.int .i64 (S.madd a b).1), (.int .i64 (S.madd a b).2)]) [] :=
  (S.madd_k a b k).trans (bif_lift (f := (fun v : Int × Int => k (.tuple [(.int .i64 v.1), (.int .i64 v.2)]) [])) (bif_lift (f := (fun v : Int × Int => k (.tuple [(.int .i64 v.1), (.int .i64 v.2)]) [])) rfl (bif_lift (f := (fun v : Int × Int => k (.tuple [(.int .i64 v.1), (.int .i64 v.2)]) [])) (bif_lift (f := (fun v : Int × Int => k (.tuple [(.int .i64 v.1), (.int .i64 v.2)]) [])) rfl rfl) rfl)) (bif_lift (f := (fun v : Int × Int => k (.tuple [(.int .i64 v.1), (.int .i64 v.2)]) [])) (bif_lift (f := (fun v : Int × Int => k (.tuple [(.int .i64 v.1), (.int .i64 v.2)]) [])) rfl rfl) rfl))
def H29 : Hnd := fun R args σ k => match args, σ with
  | [.int .i64 a, .int .i64 b], [] => k (.tuple [(.int .i64 (S.madd a b).1), (.int .i64 (S.madd a b).2)]) []
  | _, _ => none
theorem H29_ok : HndOk Try.prog 29 H29 := hnd_ok tis tisOk mixOk G35_ok F29 Try.func29 rfl (by
  intro R args σ k r h
  unfold H29 at h
  split at h
  · rename_i a b; exact ⟨0, (S.madd_v a b _).trans h⟩
  · cases h)
def G29 : Env := Env.add 29 H29 G35
theorem G29_ok : EnvOk Try.prog G29 := envAdd_ok H29_ok G35_ok

/-! ring.Buckets -/
def F25 : FCfg := ⟨keepAt [(0, [0, 1]), (1, [4])], loopAt [], []⟩
theorem S.pbuckets_k {R : Type} (w g : Int) (k : AVal → List Blk → Option R) : fnEval tis F25 0 G29 Try.f25 [.int .i64 w, .int .i64 g] [] k =
  (bif decide (g = 0) then
    none
  else
    k (.int .i64 (Go.IntKind.wrap .i64 (Int.tdiv (Go.IntKind.wrap .i64 (Go.IntKind.wrap .i64 (w + g) - 1)) g))) ([])) := by kernel_rfl
def S.pbuckets (w g : Int) : Option (Int) :=
  bif decide (g = 0) then
    none
  else
    some (Go.IntKind.wrap .i64 (Int.tdiv (Go.IntKind.wrap .i64 (Go.IntKind.wrap .i64 (w + g) - 1)) g))
theorem S.pbuckets_v {R : Type} (w g : Int) (k : AVal → List Blk → Option R) : fnEval tis F25 0 G29 Try.f25 [.int .i64 w, .int .i64 g] [] k = oK (fun v : Int => k (.int .i64 v) []) (S.pbuckets w g) :=
  (S.pbuckets_k w g k).trans (bif_lift (f := (oK (fun v : Int => k (.int .i64 v) []))) rfl rfl)
def H25 : Hnd := fun R args σ k => match args, σ with
  | [.int .i64 w, .int .i64 g], [] => oK (fun v : Int => k (.int .i64 v) []) (S.pbuckets w g)
  | _, _ => none
theorem H25_ok : HndOk Try.prog 25 H25 := hnd_ok tis tisOk mixOk G29_ok F25 Try.func25 rfl (by
  intro R args σ k r h
  unfold H25 at h
  split at h
  · rename_i w g; exact ⟨0, (S.pbuckets_v w g _).trans h⟩
  · cases h)
def G25 : Env := Env.add 25 H25 G29
theorem G25_ok : EnvOk Try.prog G25 := envAdd_ok H25_ok G29_ok

/-! ring.New -/
def F11 : FCfg := ⟨keepAt [(0, [0, 1]), (1, [0, 1, 19]), (2, [4]), (3, [4])], loopAt [], []⟩
theorem S.pring_k {R : Type} (w g : Int) (k : AVal → List Blk → Option R) : fnEval tis F11 0 G25 Try.f11 [.int .i64 w, .int .i64 g] [] k =
  (bif decide (w < 1) then
    k (.nilp) ([])
  else
    bif decide (600 < w) then
      k (.nilp) ([])
    else
      bif decide (g < 1) then
        k (.nilp) ([])
      else
        bif decide (w < g) then
          k (.nilp) ([])
        else
          (optK (S.pbuckets w g) fun o6 =>
            k (.ptr 0 0 0) ([.var [.nils, .int .i64 w, .int .i64 g, .int .i64 o6, .int .i64 (-1), .bool false]]))) := by kernel_rfl
def S.pring (w g : Int) : Option ((Unit) ⊕ (Int × Int × Int)) :=
  bif decide (w < 1) then
    some (.inl ())
  else
    bif decide (600 < w) then
      some (.inl ())
    else
      bif decide (g < 1) then
        some (.inl ())
      else
        bif decide (w < g) then
          some (.inl ())
        else
          (optK (S.pbuckets w g) fun o6 =>
            some (.inr (w, g, o6)))
theorem S.pring_v {R : Type} (w g : Int) (k : AVal → List Blk → Option R) : fnEval tis F11 0 G25 Try.f11 [.int .i64 w, .int .i64 g] [] k = oK (Sum.elim (fun v : Unit => k .nilp []) (fun v : Int × Int × Int => k (.ptr 0 (0) 0) [(.var [.nils, (.int .i64 v.1), (.int .i64 v.2.1), (.int .i64 v.2.2), (.int .i64 (-1)), (.bool (false))])])) (S.pring w g) :=
  (S.pring_k w g k).trans (bif_lift (f := (oK (Sum.elim (fun v : Unit => k .nilp []) (fun v : Int × Int × Int => k (.ptr 0 (0) 0) [(.var [.nils, (.int .i64 v.1), (.int .i64 v.2.1), (.int .i64 v.2.2), (.int .i64 (-1)), (.bool (false))])])))) rfl (bif_lift (f := (oK (Sum.elim (fun v : Unit => k .nilp []) (fun v : Int × Int × Int => k (.ptr 0 (0) 0) [(.var [.nils, (.int .i64 v.1), (.int .i64 v.2.1), (.int .i64 v.2.2), (.int .i64 (-1)), (.bool (false))])])))) rfl (bif_lift (f := (oK (Sum.elim (fun v : Unit => k .nilp []) (fun v : Int × Int × Int => k (.ptr 0 (0) 0) [(.var [.nils, (.int .i64 v.1), (.int .i64 v.2.1), (.int .i64 v.2.2), (.int .i64 (-1)), (.bool (false))])])))) rfl (bif_lift (f := (oK (Sum.elim (fun v : Unit => k .nilp []) (fun v : Int × Int × Int => k (.ptr 0 (0) 0) [(.var [.nils, (.int .i64 v.1), (.int .i64 v.2.1), (.int .i64 v.2.2), (.int .i64 (-1)), (.bool (false))])])))) rfl (opt_lift fun o6 => rfl)))))
def H11 : Hnd := fun R args σ k => match args, σ with
  | [.int .i64 w, .int .i64 g], [] => oK (Sum.elim (fun v : Unit => k .nilp []) (fun v : Int × Int × Int => k (.ptr 0 (0) 0) [(.var [.nils, (.int .i64 v.1), (.int .i64 v.2.1), (.int .i64 v.2.2), (.int .i64 (-1)), (.bool (false))])])) (S.pring w g)
  | _, _ => none
theorem H11_ok : HndOk Try.prog 11 H11 := hnd_ok tis tisOk mixOk G25_ok F11 Try.func11 rfl (by
  intro R args σ k r h
  unfold H11 at h
  split at h
  · rename_i w g; exact ⟨0, (S.pring_v w g _).trans h⟩
  · cases h)
def G11 : Env := Env.add 11 H11 G25
theorem G11_ok : EnvOk Try.prog G11 := envAdd_ok H11_ok G25_ok

/-! (*ring.Ring).forget$1 -/
def F34 : FCfg := ⟨keepAt [(0, [0, 1]), (1, [1, 4, 5]), (2, [3])], loopAt [], []⟩
theorem S.rgone_k {R : Type} (l : FL) (f : BL) (q lo len : Nat) (rw rg rn nw : Int) (ov : Bool) (k : AVal → List Blk → Option R) : fnEval tis F34 0 G11 Try.f34 [.iface 57 (.fptr 0 q 0), .ptr 1 0 0] [.fam 57 (.pair (.int .i64) (.pair (.int .i64) (.pair (.int .i64) .bool))) l f, .var [.ptr 2 0 0], .var [.slice 1 0 lo len none, .int .i64 rw, .int .i64 rg, .int .i64 rn, .int .i64 nw, .bool ov]] k =
  ((optK (f[q]?) fun o2 =>
    k (.bool (decide (rn ≤ Go.IntKind.wrap .i64 (nw - Prod.fst o2)))) ([.fam 57 (Cd.pair (Cd.int .i64) (Cd.pair (Cd.int .i64) (Cd.pair (Cd.int .i64) Cd.bool))) l f, .var [.ptr 2 0 0], .var [.slice 1 0 lo len Option.none, .int .i64 rw, .int .i64 rg, .int .i64 rn, .int .i64 nw, .bool ov]]))) := by kernel_rfl
def S.rgone (l : FL) (f : BL) (q lo len : Nat) (rw rg rn nw : Int) (ov : Bool) : Option (Bool) :=
  (optK (f[q]?) fun o2 =>
    some (decide (rn ≤ Go.IntKind.wrap .i64 (nw - Prod.fst o2))))
theorem S.rgone_v {R : Type} (l : FL) (f : BL) (q lo len : Nat) (rw rg rn nw : Int) (ov : Bool) (k : AVal → List Blk → Option R) : fnEval tis F34 0 G11 Try.f34 [.iface 57 (.fptr 0 q 0), .ptr 1 0 0] [.fam 57 (.pair (.int .i64) (.pair (.int .i64) (.pair (.int .i64) .bool))) l f, .var [.ptr 2 0 0], .var [.slice 1 0 lo len none, .int .i64 rw, .int .i64 rg, .int .i64 rn, .int .i64 nw, .bool ov]] k = oK (fun v : Bool => k (.bool v) [.fam 57 (.pair (.int .i64) (.pair (.int .i64) (.pair (.int .i64) .bool))) l f, .var [.ptr 2 0 0], .var [.slice 1 0 lo len none, .int .i64 rw, .int .i64 rg, .int .i64 rn, .int .i64 nw, .bool ov]]) (S.rgone l f q lo len rw rg rn nw ov) :=
  (S.rgone_k l f q lo len rw rg rn nw ov k).trans (opt_lift fun o2 => rfl)
def H34 : Hnd := fun R args σ k => match args, σ with
  | [.iface 57 (.fptr 0 q 0), .ptr 1 0 0], [.fam 57 (.pair (.int .i64) (.pair (.int .i64) (.pair (.int .i64) .bool))) l f, .var [.ptr 2 0 0], .var [.slice 1 0 lo len none, .int .i64 rw, .int .i64 rg, .int .i64 rn, .int .i64 nw, .bool ov]] => oK (fun v : Bool => k (.bool v) []) (S.rgone l f q lo len rw rg rn nw ov)
  | _, _ => none
theorem H34_ok : HndOk Try.prog 34 H34 := hnd_ok_pure tis tisOk mixOk G11_ok F34 Try.func34 rfl (by
  intro R args σ k r h
  unfold H34 at h
  split at h
  · rename_i q l f lo len rw rg rn nw ov; exact ⟨0, (S.rgone_v l f q lo len rw rg rn nw ov _).trans ((congrArg (fun g9 => oK g9 (S.rgone l f q lo len rw rg rn nw ov)) (funext fun v => if_pos rfl)).trans h)⟩
  · cases h)
def G34 : Env := Env.add 34 H34 G11
theorem G34_ok : EnvOk Try.prog G34 := envAdd_ok H34_ok G11_ok

/-! (*ring.Ring).Put$1 -/
def F28 : FCfg := ⟨keepAt [(0, [0, 1]), (1, [3])], loopAt [], []⟩
theorem S.rhere_k {R : Type} (l : FL) (f : BL) (q : Nat) (a : Int) (k : AVal → List Blk → Option R) : fnEval tis F28 0 G34 Try.f28 [.iface 57 (.fptr 0 q 0), .ptr 1 0 0] [.fam 57 (.pair (.int .i64) (.pair (.int .i64) (.pair (.int .i64) .bool))) l f, .var [.int .i64 a]] k =
  ((optK (f[q]?) fun o2 =>
    k (.bool (decide (Prod.fst o2 = a))) ([.fam 57 (Cd.pair (Cd.int .i64) (Cd.pair (Cd.int .i64) (Cd.pair (Cd.int .i64) Cd.bool))) l f, .var [.int .i64 a]]))) := by kernel_rfl
def S.rhere (l : FL) (f : BL) (q : Nat) (a : Int) : Option (Bool) :=
  (optK (f[q]?) fun o2 =>
    some (decide (Prod.fst o2 = a)))
theorem S.rhere_v {R : Type} (l : FL) (f : BL) (q : Nat) (a : Int) (k : AVal → List Blk → Option R) : fnEval tis F28 0 G34 Try.f28 [.iface 57 (.fptr 0 q 0), .ptr 1 0 0] [.fam 57 (.pair (.int .i64) (.pair (.int .i64) (.pair (.int .i64) .bool))) l f, .var [.int .i64 a]] k = oK (fun v : Bool => k (.bool v) [.fam 57 (.pair (.int .i64) (.pair (.int .i64) (.pair (.int .i64) .bool))) l f, .var [.int .i64 a]]) (S.rhere l f q a) :=
  (S.rhere_k l f q a k).trans (opt_lift fun o2 => rfl)
def H28 : Hnd := fun R args σ k => match args, σ with
  | [.iface 57 (.fptr 0 q 0), .ptr 1 0 0], [.fam 57 (.pair (.int .i64) (.pair (.int .i64) (.pair (.int .i64) .bool))) l f, .var [.int .i64 a]] => oK (fun v : Bool => k (.bool v) []) (S.rhere l f q a)
  | _, _ => none
theorem H28_ok : HndOk Try.prog 28 H28 := hnd_ok_pure tis tisOk mixOk G34_ok F28 Try.func28 rfl (by
  intro R args σ k r h
  unfold H28 at h
  split at h
  · rename_i q l f a; exact ⟨0, (S.rhere_v l f q a _).trans ((congrArg (fun g9 => oK g9 (S.rhere l f q a)) (funext fun v => if_pos rfl)).trans h)⟩
  · cases h)
def G28 : Env := Env.add 28 H28 G34
theorem G28_ok : EnvOk Try.prog G28 := envAdd_ok H28_ok G34_ok

/-! slices.IndexFunc[[]any,any] -/
def F27 : FCfg := ⟨keepAt [(0, [0, 1]), (1, [0, 1, 7, 8]), (2, [0, 1, 7, 8, 9]), (3, [0, 1, 5, 7, 8]), (4, [0, 1, 5, 7, 8, 16]), (5, [4]), (6, [0, 1, 7, 8]), (7, [4])], loopAt [(2, [0, 1, 7, 8], [])], []⟩
noncomputable def C_rix (fu : Nat) (l : FL) (f : BL) (lo len lo2 len2 : Nat) (rw rg rn nw : Int) (ov : Bool) : Cfg := Cfg.of tis F27 fu (List.length ([.fam 57 (.pair (.int .i64) (.pair (.int .i64) (.pair (.int .i64) .bool))) l f, .var [.ptr 2 0 0], .var [.slice 1 0 lo2 len2 none, .int .i64 rw, .int .i64 rg, .int .i64 rn, .int .i64 nw, .bool ov]] : List Blk)) Try.f27.ntmps
noncomputable def S.rix_b0 : Code := codeAt (bodyOf Try.f27) [1, 0, 1, 0, 0]
noncomputable def S.rix_s0 (l : FL) (f : BL) (lo len lo2 len2 : Nat) (rw rg rn nw : Int) (ov : Bool) (y0 : Int) : St := ⟨[(0, (.slice 1 0 (lo) (len) none)), (1, (.func 34 [(.ptr 1 (0) 0)])), (7, (.int .i64 (((len : Nat) : Int)))), (8, (.int .i64 (y0)))], [(.fam 57 (Cd.pair (Cd.int .i64) (Cd.pair (Cd.int .i64) (Cd.pair (Cd.int .i64) Cd.bool))) (l) (f)), (.var [(.ptr 2 (0) 0)]), (.var [(.slice 1 0 (lo2) (len2) none), (.int .i64 (rw)), (.int .i64 (rg)), (.int .i64 (rn)), (.int .i64 (nw)), (.bool (ov))])]⟩
noncomputable def S.rix_x0_0 (l : FL) (f : BL) (lo len lo2 len2 : Nat) (rw rg rn nw : Int) (ov : Bool) (z0 : Int) : St := ⟨[(4, (.int .i64 (z0)))], [(.fam 57 (Cd.pair (Cd.int .i64) (Cd.pair (Cd.int .i64) (Cd.pair (Cd.int .i64) Cd.bool))) (l) (f)), (.var [(.ptr 2 (0) 0)]), (.var [(.slice 1 0 (lo2) (len2) none), (.int .i64 (rw)), (.int .i64 (rg)), (.int .i64 (rn)), (.int .i64 (nw)), (.bool (ov))])]⟩
noncomputable def S.rix_x0_1 (l : FL) (f : BL) (lo len lo2 len2 : Nat) (rw rg rn nw : Int) (ov : Bool) (z0 : Int) (z1 : Bool) : St := ⟨[(0, (.slice 1 0 (lo) (len) none)), (1, (.func 34 [(.ptr 1 (0) 0)])), (7, (.int .i64 (((len : Nat) : Int)))), (8, (.int .i64 (z0))), (9, (.bool (z1)))], [(.fam 57 (Cd.pair (Cd.int .i64) (Cd.pair (Cd.int .i64) (Cd.pair (Cd.int .i64) Cd.bool))) (l) (f)), (.var [(.ptr 2 (0) 0)]), (.var [(.slice 1 0 (lo2) (len2) none), (.int .i64 (rw)), (.int .i64 (rg)), (.int .i64 (rn)), (.int .i64 (nw)), (.bool (ov))])]⟩
theorem S.rix_l0_k {R : Type} (fu : Nat) (l : FL) (f : BL) (lo len lo2 len2 : Nat) (rw rg rn nw : Int) (ov : Bool) (n : Nat) (K : Ex → St → Option R) (y0 : Int) : loopRun (C_rix fu l f lo len lo2 len2 rw rg rn nw ov) G28 S.rix_b0 (n + 1) (S.rix_s0 l f lo len lo2 len2 rw rg rn nw ov (y0)) K =
  (bif decide (y0 < ((len : Nat) : Int)) then
    bif inB y0 len then
      (optK (l[Int.toNat y0 + lo]?) fun o4 =>
        (optK (o4) fun o5 =>
          (optK (S.rgone l f o5 lo2 len2 rw rg rn nw ov) fun o6 =>
            bif o6 then
              K (Ex.ret) (S.rix_x0_0 l f lo len lo2 len2 rw rg rn nw ov (y0))
            else
              loopRun (C_rix fu l f lo len lo2 len2 rw rg rn nw ov) G28 S.rix_b0 n (S.rix_s0 l f lo len lo2 len2 rw rg rn nw ov (Go.IntKind.wrap .i64 (y0 + 1))) K)))
    else
      none
  else
    K (Ex.exit 0) (S.rix_x0_1 l f lo len lo2 len2 rw rg rn nw ov (y0) (decide (y0 < ((len : Nat) : Int))))) := by kernel_rfl
def S.rix_l0 (fu : Nat) (l : FL) (f : BL) (lo len lo2 len2 : Nat) (rw rg rn nw : Int) (ov : Bool) : Nat → (Int) → Option ((Int) ⊕ (Int × Bool))
  | 0, _ => none
  | n + 1, y0 =>
    bif decide (y0 < ((len : Nat) : Int)) then
      bif inB y0 len then
        (optK (l[Int.toNat y0 + lo]?) fun o4 =>
          (optK (o4) fun o5 =>
            (optK (S.rgone l f o5 lo2 len2 rw rg rn nw ov) fun o6 =>
              bif o6 then
                some (.inl (y0))
              else
                (S.rix_l0 fu l f lo len lo2 len2 rw rg rn nw ov n) (Go.IntKind.wrap .i64 (y0 + 1)))))
      else
        none
    else
      some (.inr (y0, decide (y0 < ((len : Nat) : Int))))
theorem S.rix_l0_v {R : Type} (fu : Nat) (l : FL) (f : BL) (lo len lo2 len2 : Nat) (rw rg rn nw : Int) (ov : Bool) (K : Ex → St → Option R) : ∀ (n : Nat) (y0 : Int), loopRun (C_rix fu l f lo len lo2 len2 rw rg rn nw ov) G28 S.rix_b0 n (S.rix_s0 l f lo len lo2 len2 rw rg rn nw ov (y0)) K = oK (β := (Int) ⊕ (Int × Bool)) (Sum.elim (fun z : Int => K (Ex.ret) (S.rix_x0_0 l f lo len lo2 len2 rw rg rn nw ov (z))) (fun z : Int × Bool => K (Ex.exit 0) (S.rix_x0_1 l f lo len lo2 len2 rw rg rn nw ov (z.1) (z.2)))) (S.rix_l0 fu l f lo len lo2 len2 rw rg rn nw ov n y0)
  | 0, _ => rfl
  | n + 1, y0 => (S.rix_l0_k fu l f lo len lo2 len2 rw rg rn nw ov n K y0).trans (bif_lift (f := (oK (β := (Int) ⊕ (Int × Bool)) (Sum.elim (fun z : Int => K (Ex.ret) (S.rix_x0_0 l f lo len lo2 len2 rw rg rn nw ov (z))) (fun z : Int × Bool => K (Ex.exit 0) (S.rix_x0_1 l f lo len lo2 len2 rw rg rn nw ov (z.1) (z.2)))))) (bif_lift (f := (oK (β := (Int) ⊕ (Int × Bool)) (Sum.elim (fun z : Int => K (Ex.ret) (S.rix_x0_0 l f lo len lo2 len2 rw rg rn nw ov (z))) (fun z : Int × Bool => K (Ex.exit 0) (S.rix_x0_1 l f lo len lo2 len2 rw rg rn nw ov (z.1) (z.2)))))) (opt_lift fun o4 => (opt_lift fun o5 => (opt_lift fun o6 => (bif_lift (f := (oK (β := (Int) ⊕ (Int × Bool)) (Sum.elim (fun z : Int => K (Ex.ret) (S.rix_x0_0 l f lo len lo2 len2 rw rg rn nw ov (z))) (fun z : Int × Bool => K (Ex.exit 0) (S.rix_x0_1 l f lo len lo2 len2 rw rg rn nw ov (z.1) (z.2)))))) rfl (S.rix_l0_v fu l f lo len lo2 len2 rw rg rn nw ov K n (Go.IntKind.wrap .i64 (y0 + 1))))))) rfl) rfl)
theorem S.rix_a0_1_k {R : Type} (fu : Nat) (l : FL) (f : BL) (lo len lo2 len2 : Nat) (rw rg rn nw : Int) (ov : Bool) (z0 : Int) (z1 : Bool) (k : AVal → List Blk → Option R) : contOf (C_rix fu l f lo len lo2 len2 rw rg rn nw ov) G28 (bodyOf Try.f27) [1, 0, 1, 0] (retK tis F27 Try.f27 (List.length ([.fam 57 (.pair (.int .i64) (.pair (.int .i64) (.pair (.int .i64) .bool))) l f, .var [.ptr 2 0 0], .var [.slice 1 0 lo2 len2 none, .int .i64 rw, .int .i64 rg, .int .i64 rn, .int .i64 nw, .bool ov]] : List Blk)) k) (Ex.exit 0) (S.rix_x0_1 l f lo len lo2 len2 rw rg rn nw ov (z0) (z1)) =
  (k (.int .i64 (-1)) ([.fam 57 (Cd.pair (Cd.int .i64) (Cd.pair (Cd.int .i64) (Cd.pair (Cd.int .i64) Cd.bool))) l f, .var [.ptr 2 0 0], .var [.slice 1 0 lo2 len2 Option.none, .int .i64 rw, .int .i64 rg, .int .i64 rn, .int .i64 nw, .bool ov]])) := by kernel_rfl
def S.rix_a0_1 (fu : Nat) (l : FL) (f : BL) (lo len lo2 len2 : Nat) (rw rg rn nw : Int) (ov : Bool) (z0 : Int) (z1 : Bool) : Option (Int) :=
  some (-1)
theorem S.rix_a0_1_v {R : Type} (fu : Nat) (l : FL) (f : BL) (lo len lo2 len2 : Nat) (rw rg rn nw : Int) (ov : Bool) (z0 : Int) (z1 : Bool) (k : AVal → List Blk → Option R) : contOf (C_rix fu l f lo len lo2 len2 rw rg rn nw ov) G28 (bodyOf Try.f27) [1, 0, 1, 0] (retK tis F27 Try.f27 (List.length ([.fam 57 (.pair (.int .i64) (.pair (.int .i64) (.pair (.int .i64) .bool))) l f, .var [.ptr 2 0 0], .var [.slice 1 0 lo2 len2 none, .int .i64 rw, .int .i64 rg, .int .i64 rn, .int .i64 nw, .bool ov]] : List Blk)) k) (Ex.exit 0) (S.rix_x0_1 l f lo len lo2 len2 rw rg rn nw ov (z0) (z1)) = oK (fun v : Int => k (.int .i64 v) [.fam 57 (.pair (.int .i64) (.pair (.int .i64) (.pair (.int .i64) .bool))) l f, .var [.ptr 2 0 0], .var [.slice 1 0 lo2 len2 none, .int .i64 rw, .int .i64 rg, .int .i64 rn, .int .i64 nw, .bool ov]]) (S.rix_a0_1 fu l f lo len lo2 len2 rw rg rn nw ov z0 z1) :=
  (S.rix_a0_1_k fu l f lo len lo2 len2 rw rg rn nw ov z0 z1 k).trans rfl
theorem S.rix_a0_0_k {R : Type} (fu : Nat) (l : FL) (f : BL) (lo len lo2 len2 : Nat) (rw rg rn nw : Int) (ov : Bool) (z0 : Int) (k : AVal → List Blk → Option R) : contOf (C_rix fu l f lo len lo2 len2 rw rg rn nw ov) G28 (bodyOf Try.f27) [1, 0, 1, 0] (retK tis F27 Try.f27 (List.length ([.fam 57 (.pair (.int .i64) (.pair (.int .i64) (.pair (.int .i64) .bool))) l f, .var [.ptr 2 0 0], .var [.slice 1 0 lo2 len2 none, .int .i64 rw, .int .i64 rg, .int .i64 rn, .int .i64 nw, .bool ov]] : List Blk)) k) (Ex.ret) (S.rix_x0_0 l f lo len lo2 len2 rw rg rn nw ov (z0)) =
  (k (.int .i64 z0) ([.fam 57 (Cd.pair (Cd.int .i64) (Cd.pair (Cd.int .i64) (Cd.pair (Cd.int .i64) Cd.bool))) l f, .var [.ptr 2 0 0], .var [.slice 1 0 lo2 len2 Option.none, .int .i64 rw, .int .i64 rg, .int .i64 rn, .int .i64 nw, .bool ov]])) := by kernel_rfl
def S.rix_a0_0 (fu : Nat) (l : FL) (f : BL) (lo len lo2 len2 : Nat) (rw rg rn nw : Int) (ov : Bool) (z0 : Int) : Option (Int) :=
  some (z0)
theorem S.rix_a0_0_v {R : Type} (fu : Nat) (l : FL) (f : BL) (lo len lo2 len2 : Nat) (rw rg rn nw : Int) (ov : Bool) (z0 : Int) (k : AVal → List Blk → Option R) : contOf (C_rix fu l f lo len lo2 len2 rw rg rn nw ov) G28 (bodyOf Try.f27) [1, 0, 1, 0] (retK tis F27 Try.f27 (List.length ([.fam 57 (.pair (.int .i64) (.pair (.int .i64) (.pair (.int .i64) .bool))) l f, .var [.ptr 2 0 0], .var [.slice 1 0 lo2 len2 none, .int .i64 rw, .int .i64 rg, .int .i64 rn, .int .i64 nw, .bool ov]] : List Blk)) k) (Ex.ret) (S.rix_x0_0 l f lo len lo2 len2 rw rg rn nw ov (z0)) = oK (fun v : Int => k (.int .i64 v) [.fam 57 (.pair (.int .i64) (.pair (.int .i64) (.pair (.int .i64) .bool))) l f, .var [.ptr 2 0 0], .var [.slice 1 0 lo2 len2 none, .int .i64 rw, .int .i64 rg, .int .i64 rn, .int .i64 nw, .bool ov]]) (S.rix_a0_0 fu l f lo len lo2 len2 rw rg rn nw ov z0) :=
  (S.rix_a0_0_k fu l f lo len lo2 len2 rw rg rn nw ov z0 k).trans rfl
theorem S.rix_k {R : Type} (fu : Nat) (l : FL) (f : BL) (lo len lo2 len2 : Nat) (rw rg rn nw : Int) (ov : Bool) (k : AVal → List Blk → Option R) : fnEval tis F27 fu G28 Try.f27 [.slice 1 0 lo len none, .func 34 [.ptr 1 0 0]] [.fam 57 (.pair (.int .i64) (.pair (.int .i64) (.pair (.int .i64) .bool))) l f, .var [.ptr 2 0 0], .var [.slice 1 0 lo2 len2 none, .int .i64 rw, .int .i64 rg, .int .i64 rn, .int .i64 nw, .bool ov]] k =
  (loopRun (C_rix fu l f lo len lo2 len2 rw rg rn nw ov) G28 S.rix_b0 fu (S.rix_s0 l f lo len lo2 len2 rw rg rn nw ov (0)) (contOf (C_rix fu l f lo len lo2 len2 rw rg rn nw ov) G28 (bodyOf Try.f27) [1, 0, 1, 0] (retK tis F27 Try.f27 (List.length ([.fam 57 (.pair (.int .i64) (.pair (.int .i64) (.pair (.int .i64) .bool))) l f, .var [.ptr 2 0 0], .var [.slice 1 0 lo2 len2 none, .int .i64 rw, .int .i64 rg, .int .i64 rn, .int .i64 nw, .bool ov]] : List Blk)) k))) := by kernel_rfl
def S.rix (fu : Nat) (l : FL) (f : BL) (lo len lo2 len2 : Nat) (rw rg rn nw : Int) (ov : Bool) : Option (Int) :=
  optK (S.rix_l0 fu l f lo len lo2 len2 rw rg rn nw ov fu (0)) (Sum.elim (fun z : Int => S.rix_a0_0 fu l f lo len lo2 len2 rw rg rn nw ov (z)) (fun z : Int × Bool => S.rix_a0_1 fu l f lo len lo2 len2 rw rg rn nw ov (z.1) (z.2)))
theorem S.rix_v {R : Type} (fu : Nat) (l : FL) (f : BL) (lo len lo2 len2 : Nat) (rw rg rn nw : Int) (ov : Bool) (k : AVal → List Blk → Option R) : fnEval tis F27 fu G28 Try.f27 [.slice 1 0 lo len none, .func 34 [.ptr 1 0 0]] [.fam 57 (.pair (.int .i64) (.pair (.int .i64) (.pair (.int .i64) .bool))) l f, .var [.ptr 2 0 0], .var [.slice 1 0 lo2 len2 none, .int .i64 rw, .int .i64 rg, .int .i64 rn, .int .i64 nw, .bool ov]] k = oK (fun v : Int => k (.int .i64 v) [.fam 57 (.pair (.int .i64) (.pair (.int .i64) (.pair (.int .i64) .bool))) l f, .var [.ptr 2 0 0], .var [.slice 1 0 lo2 len2 none, .int .i64 rw, .int .i64 rg, .int .i64 rn, .int .i64 nw, .bool ov]]) (S.rix fu l f lo len lo2 len2 rw rg rn nw ov) :=
  (S.rix_k fu l f lo len lo2 len2 rw rg rn nw ov k).trans (arr_lift (S.rix_l0_v fu l f lo len lo2 len2 rw rg rn nw ov (contOf (C_rix fu l f lo len lo2 len2 rw rg rn nw ov) G28 (bodyOf Try.f27) [1, 0, 1, 0] (retK tis F27 Try.f27 (List.length ([.fam 57 (.pair (.int .i64) (.pair (.int .i64) (.pair (.int .i64) .bool))) l f, .var [.ptr 2 0 0], .var [.slice 1 0 lo2 len2 none, .int .i64 rw, .int .i64 rg, .int .i64 rn, .int .i64 nw, .bool ov]] : List Blk)) k)) fu (0)) ((sum_lift (fun z => S.rix_a0_0_v fu l f lo len lo2 len2 rw rg rn nw ov (z) k) (fun z => S.rix_a0_1_v fu l f lo len lo2 len2 rw rg rn nw ov (z.1) (z.2) k))))
noncomputable def C_rix1 (fu : Nat) (rw rg rn nw : Int) (ov : Bool) : Cfg := Cfg.of tis F27 fu (List.length ([.var [.ptr 1 0 0], .var [.nils, .int .i64 rw, .int .i64 rg, .int .i64 rn, .int .i64 nw, .bool ov]] : List Blk)) Try.f27.ntmps
noncomputable def S.rix1_b0 : Code := codeAt (bodyOf Try.f27) [1, 0, 1, 0, 0]
noncomputable def S.rix1_s0 (rw rg rn nw : Int) (ov : Bool)  : St := ⟨[(0, .nils), (1, (.func 34 [(.ptr 0 (0) 0)])), (7, (.int .i64 (0))), (8, (.int .i64 (0)))], [(.var [(.ptr 1 (0) 0)]), (.var [.nils, (.int .i64 (rw)), (.int .i64 (rg)), (.int .i64 (rn)), (.int .i64 (nw)), (.bool (ov))])]⟩
noncomputable def S.rix1_x0_0 (rw rg rn nw : Int) (ov : Bool)  : St := ⟨[(0, .nils), (1, (.func 34 [(.ptr 0 (0) 0)])), (7, (.int .i64 (0))), (8, (.int .i64 (0))), (9, (.bool (false)))], [(.var [(.ptr 1 (0) 0)]), (.var [.nils, (.int .i64 (rw)), (.int .i64 (rg)), (.int .i64 (rn)), (.int .i64 (nw)), (.bool (ov))])]⟩
theorem S.rix1_l0_k {R : Type} (fu : Nat) (rw rg rn nw : Int) (ov : Bool) (n : Nat) (K : Ex → St → Option R)  : loopRun (C_rix1 fu rw rg rn nw ov) G28 S.rix1_b0 (n + 1) (S.rix1_s0 rw rg rn nw ov) K =
  (K (Ex.exit 0) (S.rix1_x0_0 rw rg rn nw ov)) := by kernel_rfl
def S.rix1_l0 (fu : Nat) (rw rg rn nw : Int) (ov : Bool) : Nat → Option ((Unit))
  | 0 => none
  | n + 1 =>
    some ()
theorem S.rix1_l0_v {R : Type} (fu : Nat) (rw rg rn nw : Int) (ov : Bool) (K : Ex → St → Option R) : ∀ (n : Nat) , loopRun (C_rix1 fu rw rg rn nw ov) G28 S.rix1_b0 n (S.rix1_s0 rw rg rn nw ov) K = oK (β := (Unit)) (fun z : Unit => K (Ex.exit 0) (S.rix1_x0_0 rw rg rn nw ov)) (S.rix1_l0 fu rw rg rn nw ov n)
  | 0 => rfl
  | n + 1 => (S.rix1_l0_k fu rw rg rn nw ov n K).trans rfl
theorem S.rix1_a0_0_k {R : Type} (fu : Nat) (rw rg rn nw : Int) (ov : Bool)  (k : AVal → List Blk → Option R) : contOf (C_rix1 fu rw rg rn nw ov) G28 (bodyOf Try.f27) [1, 0, 1, 0] (retK tis F27 Try.f27 (List.length ([.var [.ptr 1 0 0], .var [.nils, .int .i64 rw, .int .i64 rg, .int .i64 rn, .int .i64 nw, .bool ov]] : List Blk)) k) (Ex.exit 0) (S.rix1_x0_0 rw rg rn nw ov) =
  (k (.int .i64 (-1)) ([.var [.ptr 1 0 0], .var [.nils, .int .i64 rw, .int .i64 rg, .int .i64 rn, .int .i64 nw, .bool ov]])) := by kernel_rfl
def S.rix1_a0_0 (fu : Nat) (rw rg rn nw : Int) (ov : Bool)  : Option (Int) :=
  some (-1)
theorem S.rix1_a0_0_v {R : Type} (fu : Nat) (rw rg rn nw : Int) (ov : Bool)  (k : AVal → List Blk → Option R) : contOf (C_rix1 fu rw rg rn nw ov) G28 (bodyOf Try.f27) [1, 0, 1, 0] (retK tis F27 Try.f27 (List.length ([.var [.ptr 1 0 0], .var [.nils, .int .i64 rw, .int .i64 rg, .int .i64 rn, .int .i64 nw, .bool ov]] : List Blk)) k) (Ex.exit 0) (S.rix1_x0_0 rw rg rn nw ov) = oK (fun v : Int => k (.int .i64 v) [.var [.ptr 1 0 0], .var [.nils, .int .i64 rw, .int .i64 rg, .int .i64 rn, .int .i64 nw, .bool ov]]) (S.rix1_a0_0 fu rw rg rn nw ov) :=
  (S.rix1_a0_0_k fu rw rg rn nw ov k).trans rfl
theorem S.rix1_k {R : Type} (fu : Nat) (rw rg rn nw : Int) (ov : Bool) (k : AVal → List Blk → Option R) : fnEval tis F27 fu G28 Try.f27 [.nils, .func 34 [.ptr 0 0 0]] [.var [.ptr 1 0 0], .var [.nils, .int .i64 rw, .int .i64 rg, .int .i64 rn, .int .i64 nw, .bool ov]] k =
  (loopRun (C_rix1 fu rw rg rn nw ov) G28 S.rix1_b0 fu (S.rix1_s0 rw rg rn nw ov) (contOf (C_rix1 fu rw rg rn nw ov) G28 (bodyOf Try.f27) [1, 0, 1, 0] (retK tis F27 Try.f27 (List.length ([.var [.ptr 1 0 0], .var [.nils, .int .i64 rw, .int .i64 rg, .int .i64 rn, .int .i64 nw, .bool ov]] : List Blk)) k))) := by kernel_rfl
def S.rix1 (fu : Nat) (rw rg rn nw : Int) (ov : Bool) : Option (Int) :=
  optK (S.rix1_l0 fu rw rg rn nw ov fu) (fun z : Unit => S.rix1_a0_0 fu rw rg rn nw ov)
theorem S.rix1_v {R : Type} (fu : Nat) (rw rg rn nw : Int) (ov : Bool) (k : AVal → List Blk → Option R) : fnEval tis F27 fu G28 Try.f27 [.nils, .func 34 [.ptr 0 0 0]] [.var [.ptr 1 0 0], .var [.nils, .int .i64 rw, .int .i64 rg, .int .i64 rn, .int .i64 nw, .bool ov]] k = oK (fun v : Int => k (.int .i64 v) [.var [.ptr 1 0 0], .var [.nils, .int .i64 rw, .int .i64 rg, .int .i64 rn, .int .i64 nw, .bool ov]]) (S.rix1 fu rw rg rn nw ov) :=
  (S.rix1_k fu rw rg rn nw ov k).trans (arr_lift (S.rix1_l0_v fu rw rg rn nw ov (contOf (C_rix1 fu rw rg rn nw ov) G28 (bodyOf Try.f27) [1, 0, 1, 0] (retK tis F27 Try.f27 (List.length ([.var [.ptr 1 0 0], .var [.nils, .int .i64 rw, .int .i64 rg, .int .i64 rn, .int .i64 nw, .bool ov]] : List Blk)) k)) fu) ((fun z => S.rix1_a0_0_v fu rw rg rn nw ov k)))
noncomputable def C_rix2 (fu : Nat) (l : FL) (f : BL) (lo len : Nat) (a : Int) : Cfg := Cfg.of tis F27 fu (List.length ([.fam 57 (.pair (.int .i64) (.pair (.int .i64) (.pair (.int .i64) .bool))) l f, .var [.int .i64 a]] : List Blk)) Try.f27.ntmps
noncomputable def S.rix2_b0 : Code := codeAt (bodyOf Try.f27) [1, 0, 1, 0, 0]
noncomputable def S.rix2_s0 (l : FL) (f : BL) (lo len : Nat) (a : Int) (y0 : Int) : St := ⟨[(0, (.slice 1 0 (lo) (len) none)), (1, (.func 28 [(.ptr 1 (0) 0)])), (7, (.int .i64 (((len : Nat) : Int)))), (8, (.int .i64 (y0)))], [(.fam 57 (Cd.pair (Cd.int .i64) (Cd.pair (Cd.int .i64) (Cd.pair (Cd.int .i64) Cd.bool))) (l) (f)), (.var [(.int .i64 (a))])]⟩
noncomputable def S.rix2_x0_0 (l : FL) (f : BL) (lo len : Nat) (a : Int) (z0 : Int) : St := ⟨[(4, (.int .i64 (z0)))], [(.fam 57 (Cd.pair (Cd.int .i64) (Cd.pair (Cd.int .i64) (Cd.pair (Cd.int .i64) Cd.bool))) (l) (f)), (.var [(.int .i64 (a))])]⟩
noncomputable def S.rix2_x0_1 (l : FL) (f : BL) (lo len : Nat) (a : Int) (z0 : Int) (z1 : Bool) : St := ⟨[(0, (.slice 1 0 (lo) (len) none)), (1, (.func 28 [(.ptr 1 (0) 0)])), (7, (.int .i64 (((len : Nat) : Int)))), (8, (.int .i64 (z0))), (9, (.bool (z1)))], [(.fam 57 (Cd.pair (Cd.int .i64) (Cd.pair (Cd.int .i64) (Cd.pair (Cd.int .i64) Cd.bool))) (l) (f)), (.var [(.int .i64 (a))])]⟩
theorem S.rix2_l0_k {R : Type} (fu : Nat) (l : FL) (f : BL) (lo len : Nat) (a : Int) (n : Nat) (K : Ex → St → Option R) (y0 : Int) : loopRun (C_rix2 fu l f lo len a) G28 S.rix2_b0 (n + 1) (S.rix2_s0 l f lo len a (y0)) K =
  (bif decide (y0 < ((len : Nat) : Int)) then
    bif inB y0 len then
      (optK (l[Int.toNat y0 + lo]?) fun o4 =>
        (optK (o4) fun o5 =>
          (optK (S.rhere l f o5 a) fun o6 =>
            bif o6 then
              K (Ex.ret) (S.rix2_x0_0 l f lo len a (y0))
            else
              loopRun (C_rix2 fu l f lo len a) G28 S.rix2_b0 n (S.rix2_s0 l f lo len a (Go.IntKind.wrap .i64 (y0 + 1))) K)))
    else
      none
  else
    K (Ex.exit 0) (S.rix2_x0_1 l f lo len a (y0) (decide (y0 < ((len : Nat) : Int))))) := by kernel_rfl
def S.rix2_l0 (fu : Nat) (l : FL) (f : BL) (lo len : Nat) (a : Int) : Nat → (Int) → Option ((Int) ⊕ (Int × Bool))
  | 0, _ => none
  | n + 1, y0 =>
    bif decide (y0 < ((len : Nat) : Int)) then
      bif inB y0 len then
        (optK (l[Int.toNat y0 + lo]?) fun o4 =>
          (optK (o4) fun o5 =>
            (optK (S.rhere l f o5 a) fun o6 =>
              bif o6 then
                some (.inl (y0))
              else
                (S.rix2_l0 fu l f lo len a n) (Go.IntKind.wrap .i64 (y0 + 1)))))
      else
        none
    else
      some (.inr (y0, decide (y0 < ((len : Nat) : Int))))
theorem S.rix2_l0_v {R : Type} (fu : Nat) (l : FL) (f : BL) (lo len : Nat) (a : Int) (K : Ex → St → Option R) : ∀ (n : Nat) (y0 : Int), loopRun (C_rix2 fu l f lo len a) G28 S.rix2_b0 n (S.rix2_s0 l f lo len a (y0)) K = oK (β := (Int) ⊕ (Int × Bool)) (Sum.elim (fun z : Int => K (Ex.ret) (S.rix2_x0_0 l f lo len a (z))) (fun z : Int × Bool => K (Ex.exit 0) (S.rix2_x0_1 l f lo len a (z.1) (z.2)))) (S.rix2_l0 fu l f lo len a n y0)
  | 0, _ => rfl
  | n + 1, y0 => (S.rix2_l0_k fu l f lo len a n K y0).trans (bif_lift (f := (oK (β := (Int) ⊕ (Int × Bool)) (Sum.elim (fun z : Int => K (Ex.ret) (S.rix2_x0_0 l f lo len a (z))) (fun z : Int × Bool => K (Ex.exit 0) (S.rix2_x0_1 l f lo len a (z.1) (z.2)))))) (bif_lift (f := (oK (β := (Int) ⊕ (Int × Bool)) (Sum.elim (fun z : Int => K (Ex.ret) (S.rix2_x0_0 l f lo len a (z))) (fun z : Int × Bool => K (Ex.exit 0) (S.rix2_x0_1 l f lo len a (z.1) (z.2)))))) (opt_lift fun o4 => (opt_lift fun o5 => (opt_lift fun o6 => (bif_lift (f := (oK (β := (Int) ⊕ (Int × Bool)) (Sum.elim (fun z : Int => K (Ex.ret) (S.rix2_x0_0 l f lo len a (z))) (fun z : Int × Bool => K (Ex.exit 0) (S.rix2_x0_1 l f lo len a (z.1) (z.2)))))) rfl (S.rix2_l0_v fu l f lo len a K n (Go.IntKind.wrap .i64 (y0 + 1))))))) rfl) rfl)
theorem S.rix2_a0_1_k {R : Type} (fu : Nat) (l : FL) (f : BL) (lo len : Nat) (a : Int) (z0 : Int) (z1 : Bool) (k : AVal → List Blk → Option R) : contOf (C_rix2 fu l f lo len a) G28 (bodyOf Try.f27) [1, 0, 1, 0] (retK tis F27 Try.f27 (List.length ([.fam 57 (.pair (.int .i64) (.pair (.int .i64) (.pair (.int .i64) .bool))) l f, .var [.int .i64 a]] : List Blk)) k) (Ex.exit 0) (S.rix2_x0_1 l f lo len a (z0) (z1)) =
  (k (.int .i64 (-1)) ([.fam 57 (Cd.pair (Cd.int .i64) (Cd.pair (Cd.int .i64) (Cd.pair (Cd.int .i64) Cd.bool))) l f, .var [.int .i64 a]])) := by kernel_rfl
def S.rix2_a0_1 (fu : Nat) (l : FL) (f : BL) (lo len : Nat) (a : Int) (z0 : Int) (z1 : Bool) : Option (Int) :=
  some (-1)
theorem S.rix2_a0_1_v {R : Type} (fu : Nat) (l : FL) (f : BL) (lo len : Nat) (a : Int) (z0 : Int) (z1 : Bool) (k : AVal → List Blk → Option R) : contOf (C_rix2 fu l f lo len a) G28 (bodyOf Try.f27) [1, 0, 1, 0] (retK tis F27 Try.f27 (List.length ([.fam 57 (.pair (.int .i64) (.pair (.int .i64) (.pair (.int .i64) .bool))) l f, .var [.int .i64 a]] : List Blk)) k) (Ex.exit 0) (S.rix2_x0_1 l f lo len a (z0) (z1)) = oK (fun v : Int => k (.int .i64 v) [.fam 57 (.pair (.int .i64) (.pair (.int .i64) (.pair (.int .i64) .bool))) l f, .var [.int .i64 a]]) (S.rix2_a0_1 fu l f lo len a z0 z1) :=
  (S.rix2_a0_1_k fu l f lo len a z0 z1 k).trans rfl
theorem S.rix2_a0_0_k {R : Type} (fu : Nat) (l : FL) (f : BL) (lo len : Nat) (a : Int) (z0 : Int) (k : AVal → List Blk → Option R) : contOf (C_rix2 fu l f lo len a) G28 (bodyOf Try.f27) [1, 0, 1, 0] (retK tis F27 Try.f27 (List.length ([.fam 57 (.pair (.int .i64) (.pair (.int .i64) (.pair (.int .i64) .bool))) l f, .var [.int .i64 a]] : List Blk)) k) (Ex.ret) (S.rix2_x0_0 l f lo len a (z0)) =
  (k (.int .i64 z0) ([.fam 57 (Cd.pair (Cd.int .i64) (Cd.pair (Cd.int .i64) (Cd.pair (Cd.int .i64) Cd.bool))) l f, .var [.int .i64 a]])) := by kernel_rfl
def S.rix2_a0_0 (fu : Nat) (l : FL) (f : BL) (lo len : Nat) (a : Int) (z0 : Int) : Option (Int) :=
  some (z0)
theorem S.rix2_a0_0_v {R : Type} (fu : Nat) (l : FL) (f : BL) (lo len : Nat) (a : Int) (z0 : Int) (k : AVal → List Blk → Option R) : contOf (C_rix2 fu l f lo len a) G28 (bodyOf Try.f27) [1, 0, 1, 0] (retK tis F27 Try.f27 (List.length ([.fam 57 (.pair (.int .i64) (.pair (.int .i64) (.pair (.int .i64) .bool))) l f, .var [.int .i64 a]] : List Blk)) k) (Ex.ret) (S.rix2_x0_0 l f lo len a (z0)) = oK (fun v : Int => k (.int .i64 v) [.fam 57 (.pair (.int .i64) (.pair (.int .i64) (.pair (.int .i64) .bool))) l f, .var [.int .i64 a]]) (S.rix2_a0_0 fu l f lo len a z0) :=
  (S.rix2_a0_0_k fu l f lo len a z0 k).trans rfl
theorem S.rix2_k {R : Type} (fu : Nat) (l : FL) (f : BL) (lo len : Nat) (a : Int) (k : AVal → List Blk → Option R) : fnEval tis F27 fu G28 Try.f27 [.slice 1 0 lo len none, .func 28 [.ptr 1 0 0]] [.fam 57 (.pair (.int .i64) (.pair (.int .i64) (.pair (.int .i64) .bool))) l f, .var [.int .i64 a]] k =
  (loopRun (C_rix2 fu l f lo len a) G28 S.rix2_b0 fu (S.rix2_s0 l f lo len a (0)) (contOf (C_rix2 fu l f lo len a) G28 (bodyOf Try.f27) [1, 0, 1, 0] (retK tis F27 Try.f27 (List.length ([.fam 57 (.pair (.int .i64) (.pair (.int .i64) (.pair (.int .i64) .bool))) l f, .var [.int .i64 a]] : List Blk)) k))) := by kernel_rfl
def S.rix2 (fu : Nat) (l : FL) (f : BL) (lo len : Nat) (a : Int) : Option (Int) :=
  optK (S.rix2_l0 fu l f lo len a fu (0)) (Sum.elim (fun z : Int => S.rix2_a0_0 fu l f lo len a (z)) (fun z : Int × Bool => S.rix2_a0_1 fu l f lo len a (z.1) (z.2)))
theorem S.rix2_v {R : Type} (fu : Nat) (l : FL) (f : BL) (lo len : Nat) (a : Int) (k : AVal → List Blk → Option R) : fnEval tis F27 fu G28 Try.f27 [.slice 1 0 lo len none, .func 28 [.ptr 1 0 0]] [.fam 57 (.pair (.int .i64) (.pair (.int .i64) (.pair (.int .i64) .bool))) l f, .var [.int .i64 a]] k = oK (fun v : Int => k (.int .i64 v) [.fam 57 (.pair (.int .i64) (.pair (.int .i64) (.pair (.int .i64) .bool))) l f, .var [.int .i64 a]]) (S.rix2 fu l f lo len a) :=
  (S.rix2_k fu l f lo len a k).trans (arr_lift (S.rix2_l0_v fu l f lo len a (contOf (C_rix2 fu l f lo len a) G28 (bodyOf Try.f27) [1, 0, 1, 0] (retK tis F27 Try.f27 (List.length ([.fam 57 (.pair (.int .i64) (.pair (.int .i64) (.pair (.int .i64) .bool))) l f, .var [.int .i64 a]] : List Blk)) k)) fu (0)) ((sum_lift (fun z => S.rix2_a0_0_v fu l f lo len a (z) k) (fun z => S.rix2_a0_1_v fu l f lo len a (z.1) (z.2) k))))
noncomputable def C_rix3 (fu : Nat) (a : Int) : Cfg := Cfg.of tis F27 fu (List.length ([.var [.int .i64 a]] : List Blk)) Try.f27.ntmps
noncomputable def S.rix3_b0 : Code := codeAt (bodyOf Try.f27) [1, 0, 1, 0, 0]
noncomputable def S.rix3_s0 (a : Int)  : St := ⟨[(0, .nils), (1, (.func 28 [(.ptr 0 (0) 0)])), (7, (.int .i64 (0))), (8, (.int .i64 (0)))], [(.var [(.int .i64 (a))])]⟩
noncomputable def S.rix3_x0_0 (a : Int)  : St := ⟨[(0, .nils), (1, (.func 28 [(.ptr 0 (0) 0)])), (7, (.int .i64 (0))), (8, (.int .i64 (0))), (9, (.bool (false)))], [(.var [(.int .i64 (a))])]⟩
theorem S.rix3_l0_k {R : Type} (fu : Nat) (a : Int) (n : Nat) (K : Ex → St → Option R)  : loopRun (C_rix3 fu a) G28 S.rix3_b0 (n + 1) (S.rix3_s0 a) K =
  (K (Ex.exit 0) (S.rix3_x0_0 a)) := by kernel_rfl
def S.rix3_l0 (fu : Nat) (a : Int) : Nat → Option ((Unit))
  | 0 => none
  | n + 1 =>
    some ()
theorem S.rix3_l0_v {R : Type} (fu : Nat) (a : Int) (K : Ex → St → Option R) : ∀ (n : Nat) , loopRun (C_rix3 fu a) G28 S.rix3_b0 n (S.rix3_s0 a) K = oK (β := (Unit)) (fun z : Unit => K (Ex.exit 0) (S.rix3_x0_0 a)) (S.rix3_l0 fu a n)
  | 0 => rfl
  | n + 1 => (S.rix3_l0_k fu a n K).trans rfl
theorem S.rix3_a0_0_k {R : Type} (fu : Nat) (a : Int)  (k : AVal → List Blk → Option R) : contOf (C_rix3 fu a) G28 (bodyOf Try.f27) [1, 0, 1, 0] (retK tis F27 Try.f27 (List.length ([.var [.int .i64 a]] : List Blk)) k) (Ex.exit 0) (S.rix3_x0_0 a) =
  (k (.int .i64 (-1)) ([.var [.int .i64 a]])) := by kernel_rfl
def S.rix3_a0_0 (fu : Nat) (a : Int)  : Option (Int) :=
  some (-1)
theorem S.rix3_a0_0_v {R : Type} (fu : Nat) (a : Int)  (k : AVal → List Blk → Option R) : contOf (C_rix3 fu a) G28 (bodyOf Try.f27) [1, 0, 1, 0] (retK tis F27 Try.f27 (List.length ([.var [.int .i64 a]] : List Blk)) k) (Ex.exit 0) (S.rix3_x0_0 a) = oK (fun v : Int => k (.int .i64 v) [.var [.int .i64 a]]) (S.rix3_a0_0 fu a) :=
  (S.rix3_a0_0_k fu a k).trans rfl
theorem S.rix3_k {R : Type} (fu : Nat) (a : Int) (k : AVal → List Blk → Option R) : fnEval tis F27 fu G28 Try.f27 [.nils, .func 28 [.ptr 0 0 0]] [.var [.int .i64 a]] k =
  (loopRun (C_rix3 fu a) G28 S.rix3_b0 fu (S.rix3_s0 a) (contOf (C_rix3 fu a) G28 (bodyOf Try.f27) [1, 0, 1, 0] (retK tis F27 Try.f27 (List.length ([.var [.int .i64 a]] : List Blk)) k))) := by kernel_rfl
def S.rix3 (fu : Nat) (a : Int) : Option (Int) :=
  optK (S.rix3_l0 fu a fu) (fun z : Unit => S.rix3_a0_0 fu a)
theorem S.rix3_v {R : Type} (fu : Nat) (a : Int) (k : AVal → List Blk → Option R) : fnEval tis F27 fu G28 Try.f27 [.nils, .func 28 [.ptr 0 0 0]] [.var [.int .i64 a]] k = oK (fun v : Int => k (.int .i64 v) [.var [.int .i64 a]]) (S.rix3 fu a) :=
  (S.rix3_k fu a k).trans (arr_lift (S.rix3_l0_v fu a (contOf (C_rix3 fu a) G28 (bodyOf Try.f27) [1, 0, 1, 0] (retK tis F27 Try.f27 (List.length ([.var [.int .i64 a]] : List Blk)) k)) fu) ((fun z => S.rix3_a0_0_v fu a k)))
def H27 : Hnd := fun R args σ k => match args, σ with
  | [.slice 1 0 lo len none, .func 34 [.ptr 1 0 0]], [.fam 57 (.pair (.int .i64) (.pair (.int .i64) (.pair (.int .i64) .bool))) l f, .var [.ptr 2 0 0], .var [.slice 1 0 lo2 len2 none, .int .i64 rw, .int .i64 rg, .int .i64 rn, .int .i64 nw, .bool ov]] => oK (fun v : Int => k (.int .i64 v) []) (S.rix 100000 l f lo len lo2 len2 rw rg rn nw ov)
  | [.nils, .func 34 [.ptr 0 0 0]], [.var [.ptr 1 0 0], .var [.nils, .int .i64 rw, .int .i64 rg, .int .i64 rn, .int .i64 nw, .bool ov]] => oK (fun v : Int => k (.int .i64 v) []) (S.rix1 100000 rw rg rn nw ov)
  | [.slice 1 0 lo len none, .func 28 [.ptr 1 0 0]], [.fam 57 (.pair (.int .i64) (.pair (.int .i64) (.pair (.int .i64) .bool))) l f, .var [.int .i64 a]] => oK (fun v : Int => k (.int .i64 v) []) (S.rix2 100000 l f lo len a)
  | [.nils, .func 28 [.ptr 0 0 0]], [.var [.int .i64 a]] => oK (fun v : Int => k (.int .i64 v) []) (S.rix3 100000 a)
  | _, _ => none
theorem H27_ok : HndOk Try.prog 27 H27 := hnd_ok_pure tis tisOk mixOk G28_ok F27 Try.func27 rfl (by
  intro R args σ k r h
  unfold H27 at h
  split at h
  · rename_i lo len l f lo2 len2 rw rg rn nw ov; exact ⟨100000, (S.rix_v 100000 l f lo len lo2 len2 rw rg rn nw ov _).trans ((congrArg (fun g9 => oK g9 (S.rix 100000 l f lo len lo2 len2 rw rg rn nw ov)) (funext fun v => if_pos rfl)).trans h)⟩
  · rename_i rw rg rn nw ov; exact ⟨100000, (S.rix1_v 100000 rw rg rn nw ov _).trans ((congrArg (fun g9 => oK g9 (S.rix1 100000 rw rg rn nw ov)) (funext fun v => if_pos rfl)).trans h)⟩
  · rename_i lo len l f a; exact ⟨100000, (S.rix2_v 100000 l f lo len a _).trans ((congrArg (fun g9 => oK g9 (S.rix2 100000 l f lo len a)) (funext fun v => if_pos rfl)).trans h)⟩
  · rename_i a; exact ⟨100000, (S.rix3_v 100000 a _).trans ((congrArg (fun g9 => oK g9 (S.rix3 100000 a)) (funext fun v => if_pos rfl)).trans h)⟩
  · cases h)
def G27 : Env := Env.add 27 H27 G28
theorem G27_ok : EnvOk Try.prog G27 := envAdd_ok H27_ok G28_ok

/-! slices.DeleteFunc[[]any,any] -/
def F33 : FCfg := ⟨keepAt [(0, [0, 1]), (1, [0, 1, 5]), (2, [0, 1, 5, 12]), (3, [4]), (4, [0, 1, 5, 6]), (5, [0, 1, 5, 6, 19]), (6, [0, 1, 5, 6]), (7, [0, 1, 5, 6, 7]), (8, [0, 1, 5, 6, 7, 29]), (9, [0, 1, 5, 6]), (10, [0, 1, 5, 6]), (11, [0, 5]), (12, [4])], loopAt [(5, [0, 1, 5, 6], [])], []⟩
noncomputable def C_rdel (fu : Nat) (l : FL) (f : BL) (lo len lo2 len2 : Nat) (rw rg rn nw : Int) (ov : Bool) : Cfg := Cfg.of tis F33 fu (List.length ([.fam 57 (.pair (.int .i64) (.pair (.int .i64) (.pair (.int .i64) .bool))) l f, .var [.ptr 2 0 0], .var [.slice 1 0 lo2 len2 none, .int .i64 rw, .int .i64 rg, .int .i64 rn, .int .i64 nw, .bool ov]] : List Blk)) Try.f33.ntmps
noncomputable def S.rdel_b0 : Code := codeAt (bodyOf Try.f33) [1, 1, 1, 0, 1, 0, 0]
noncomputable def S.rdel_s0 (l : FL) (f : BL) (lo len lo2 len2 : Nat) (rw rg rn nw : Int) (ov : Bool) (y0 : Int) (y1 : Int) (y2 : List (Option Nat)) : St := ⟨[(0, (.slice 1 0 (lo) (len) none)), (1, (.func 34 [(.ptr 1 (0) 0)])), (5, (.int .i64 (y0))), (6, (.int .i64 (y1)))], [(.fam 57 (Cd.pair (Cd.int .i64) (Cd.pair (Cd.int .i64) (Cd.pair (Cd.int .i64) Cd.bool))) (y2) (f)), (.var [(.ptr 2 (0) 0)]), (.var [(.slice 1 0 (lo2) (len2) none), (.int .i64 (rw)), (.int .i64 (rg)), (.int .i64 (rn)), (.int .i64 (nw)), (.bool (ov))])]⟩
noncomputable def S.rdel_x0_0 (l : FL) (f : BL) (lo len lo2 len2 : Nat) (rw rg rn nw : Int) (ov : Bool) (z0 : Int) (z1 : Int) (z2 : Bool) (z3 : List (Option Nat)) : St := ⟨[(0, (.slice 1 0 (lo) (len) none)), (1, (.func 34 [(.ptr 1 (0) 0)])), (5, (.int .i64 (z0))), (6, (.int .i64 (z1))), (19, (.bool (z2)))], [(.fam 57 (Cd.pair (Cd.int .i64) (Cd.pair (Cd.int .i64) (Cd.pair (Cd.int .i64) Cd.bool))) (z3) (f)), (.var [(.ptr 2 (0) 0)]), (.var [(.slice 1 0 (lo2) (len2) none), (.int .i64 (rw)), (.int .i64 (rg)), (.int .i64 (rn)), (.int .i64 (nw)), (.bool (ov))])]⟩
theorem S.rdel_l0_k {R : Type} (fu : Nat) (l : FL) (f : BL) (lo len lo2 len2 : Nat) (rw rg rn nw : Int) (ov : Bool) (n : Nat) (K : Ex → St → Option R) (y0 : Int) (y1 : Int) (y2 : List (Option Nat)) : loopRun (C_rdel fu l f lo len lo2 len2 rw rg rn nw ov) G27 S.rdel_b0 (n + 1) (S.rdel_s0 l f lo len lo2 len2 rw rg rn nw ov (y0) (y1) (y2)) K =
  (bif decide (y1 < ((len : Nat) : Int)) then
    bif inB y1 len then
      (optK (y2[Int.toNat y1 + lo]?) fun o4 =>
        (optK (o4) fun o5 =>
          (optK (S.rgone y2 f o5 lo2 len2 rw rg rn nw ov) fun o6 =>
            bif !o6 then
              bif inB y0 len then
                bif true && Nat.blt (Int.toNat y0 + lo) (List.length y2) then
                  loopRun (C_rdel fu l f lo len lo2 len2 rw rg rn nw ov) G27 S.rdel_b0 n (S.rdel_s0 l f lo len lo2 len2 rw rg rn nw ov (Go.IntKind.wrap .i64 (y0 + 1)) (Go.IntKind.wrap .i64 (y1 + 1)) (List.set y2 (Int.toNat y0 + lo) (Option.some o5))) K
                else
                  none
              else
                none
            else
              loopRun (C_rdel fu l f lo len lo2 len2 rw rg rn nw ov) G27 S.rdel_b0 n (S.rdel_s0 l f lo len lo2 len2 rw rg rn nw ov (y0) (Go.IntKind.wrap .i64 (y1 + 1)) (y2)) K)))
    else
      none
  else
    K (Ex.exit 0) (S.rdel_x0_0 l f lo len lo2 len2 rw rg rn nw ov (y0) (y1) (decide (y1 < ((len : Nat) : Int))) (y2))) := by kernel_rfl
def S.rdel_l0 (fu : Nat) (l : FL) (f : BL) (lo len lo2 len2 : Nat) (rw rg rn nw : Int) (ov : Bool) : Nat → (Int) → (Int) → (List (Option Nat)) → Option ((Int × Int × Bool × List (Option Nat)))
  | 0, _, _, _ => none
  | n + 1, y0, y1, y2 =>
    bif decide (y1 < ((len : Nat) : Int)) then
      bif inB y1 len then
        (optK (y2[Int.toNat y1 + lo]?) fun o4 =>
          (optK (o4) fun o5 =>
            (optK (S.rgone y2 f o5 lo2 len2 rw rg rn nw ov) fun o6 =>
              bif !o6 then
                bif inB y0 len then
                  bif true && Nat.blt (Int.toNat y0 + lo) (List.length y2) then
                    (S.rdel_l0 fu l f lo len lo2 len2 rw rg rn nw ov n) (Go.IntKind.wrap .i64 (y0 + 1)) (Go.IntKind.wrap .i64 (y1 + 1)) (List.set y2 (Int.toNat y0 + lo) (Option.some o5))
                  else
                    none
                else
                  none
              else
                (S.rdel_l0 fu l f lo len lo2 len2 rw rg rn nw ov n) (y0) (Go.IntKind.wrap .i64 (y1 + 1)) (y2))))
      else
        none
    else
      some (y0, y1, decide (y1 < ((len : Nat) : Int)), y2)
theorem S.rdel_l0_v {R : Type} (fu : Nat) (l : FL) (f : BL) (lo len lo2 len2 : Nat) (rw rg rn nw : Int) (ov : Bool) (K : Ex → St → Option R) : ∀ (n : Nat) (y0 : Int) (y1 : Int) (y2 : List (Option Nat)), loopRun (C_rdel fu l f lo len lo2 len2 rw rg rn nw ov) G27 S.rdel_b0 n (S.rdel_s0 l f lo len lo2 len2 rw rg rn nw ov (y0) (y1) (y2)) K = oK (β := (Int × Int × Bool × List (Option Nat))) (fun z : Int × Int × Bool × List (Option Nat) => K (Ex.exit 0) (S.rdel_x0_0 l f lo len lo2 len2 rw rg rn nw ov (z.1) (z.2.1) (z.2.2.1) (z.2.2.2))) (S.rdel_l0 fu l f lo len lo2 len2 rw rg rn nw ov n y0 y1 y2)
  | 0, _, _, _ => rfl
  | n + 1, y0, y1, y2 => (S.rdel_l0_k fu l f lo len lo2 len2 rw rg rn nw ov n K y0 y1 y2).trans (bif_lift (f := (oK (β := (Int × Int × Bool × List (Option Nat))) (fun z : Int × Int × Bool × List (Option Nat) => K (Ex.exit 0) (S.rdel_x0_0 l f lo len lo2 len2 rw rg rn nw ov (z.1) (z.2.1) (z.2.2.1) (z.2.2.2))))) (bif_lift (f := (oK (β := (Int × Int × Bool × List (Option Nat))) (fun z : Int × Int × Bool × List (Option Nat) => K (Ex.exit 0) (S.rdel_x0_0 l f lo len lo2 len2 rw rg rn nw ov (z.1) (z.2.1) (z.2.2.1) (z.2.2.2))))) (opt_lift fun o4 => (opt_lift fun o5 => (opt_lift fun o6 => (bif_lift (f := (oK (β := (Int × Int × Bool × List (Option Nat))) (fun z : Int × Int × Bool × List (Option Nat) => K (Ex.exit 0) (S.rdel_x0_0 l f lo len lo2 len2 rw rg rn nw ov (z.1) (z.2.1) (z.2.2.1) (z.2.2.2))))) (bif_lift (f := (oK (β := (Int × Int × Bool × List (Option Nat))) (fun z : Int × Int × Bool × List (Option Nat) => K (Ex.exit 0) (S.rdel_x0_0 l f lo len lo2 len2 rw rg rn nw ov (z.1) (z.2.1) (z.2.2.1) (z.2.2.2))))) (bif_lift (f := (oK (β := (Int × Int × Bool × List (Option Nat))) (fun z : Int × Int × Bool × List (Option Nat) => K (Ex.exit 0) (S.rdel_x0_0 l f lo len lo2 len2 rw rg rn nw ov (z.1) (z.2.1) (z.2.2.1) (z.2.2.2))))) (S.rdel_l0_v fu l f lo len lo2 len2 rw rg rn nw ov K n (Go.IntKind.wrap .i64 (y0 + 1)) (Go.IntKind.wrap .i64 (y1 + 1)) (List.set y2 (Int.toNat y0 + lo) (Option.some o5))) rfl) rfl) (S.rdel_l0_v fu l f lo len lo2 len2 rw rg rn nw ov K n (y0) (Go.IntKind.wrap .i64 (y1 + 1)) (y2)))))) rfl) rfl)
theorem S.rdel_a0_0_k {R : Type} (fu : Nat) (l : FL) (f : BL) (lo len lo2 len2 : Nat) (rw rg rn nw : Int) (ov : Bool) (z0 : Int) (z1 : Int) (z2 : Bool) (z3 : List (Option Nat)) (k : AVal → List Blk → Option R) : contOf (C_rdel fu l f lo len lo2 len2 rw rg rn nw ov) G27 (bodyOf Try.f33) [1, 1, 1, 0, 1, 0] (retK tis F33 Try.f33 (List.length ([.fam 57 (.pair (.int .i64) (.pair (.int .i64) (.pair (.int .i64) .bool))) l f, .var [.ptr 2 0 0], .var [.slice 1 0 lo2 len2 none, .int .i64 rw, .int .i64 rg, .int .i64 rn, .int .i64 nw, .bool ov]] : List Blk)) k) (Ex.exit 0) (S.rdel_x0_0 l f lo len lo2 len2 rw rg rn nw ov (z0) (z1) (z2) (z3)) =
  (bif decide (0 ≤ z0 ∧ z0 ≤ ((len : Nat) : Int)) then
    bif Nat.ble (Int.toNat z0 + lo + (len - Int.toNat z0)) (List.length z3) then
      bif decide (0 ≤ z0 ∧ z0 ≤ ((len : Nat) : Int)) then
        k (.slice 1 0 lo (Int.toNat z0) Option.none) ([.fam 57 (Cd.pair (Cd.int .i64) (Cd.pair (Cd.int .i64) (Cd.pair (Cd.int .i64) Cd.bool))) (List.take (Int.toNat z0 + lo) z3 ++ fillRows Option.none (len - Int.toNat z0) (List.drop (Int.toNat z0 + lo) z3)) f, .var [.ptr 2 0 0], .var [.slice 1 0 lo2 len2 Option.none, .int .i64 rw, .int .i64 rg, .int .i64 rn, .int .i64 nw, .bool ov]])
      else
        none
    else
      none
  else
    none) := by kernel_rfl
def S.rdel_a0_0 (fu : Nat) (l : FL) (f : BL) (lo len lo2 len2 : Nat) (rw rg rn nw : Int) (ov : Bool) (z0 : Int) (z1 : Int) (z2 : Bool) (z3 : List (Option Nat)) : Option (Nat × Nat × List (Option Nat) × BL × Nat × Nat × Int × Int × Int × Int × Bool) :=
  bif decide (0 ≤ z0 ∧ z0 ≤ ((len : Nat) : Int)) then
    bif Nat.ble (Int.toNat z0 + lo + (len - Int.toNat z0)) (List.length z3) then
      bif decide (0 ≤ z0 ∧ z0 ≤ ((len : Nat) : Int)) then
        some (lo, Int.toNat z0, List.take (Int.toNat z0 + lo) z3 ++ fillRows Option.none (len - Int.toNat z0) (List.drop (Int.toNat z0 + lo) z3), f, lo2, len2, rw, rg, rn, nw, ov)
      else
        none
    else
      none
  else
    none
theorem S.rdel_a0_0_v {R : Type} (fu : Nat) (l : FL) (f : BL) (lo len lo2 len2 : Nat) (rw rg rn nw : Int) (ov : Bool) (z0 : Int) (z1 : Int) (z2 : Bool) (z3 : List (Option Nat)) (k : AVal → List Blk → Option R) : contOf (C_rdel fu l f lo len lo2 len2 rw rg rn nw ov) G27 (bodyOf Try.f33) [1, 1, 1, 0, 1, 0] (retK tis F33 Try.f33 (List.length ([.fam 57 (.pair (.int .i64) (.pair (.int .i64) (.pair (.int .i64) .bool))) l f, .var [.ptr 2 0 0], .var [.slice 1 0 lo2 len2 none, .int .i64 rw, .int .i64 rg, .int .i64 rn, .int .i64 nw, .bool ov]] : List Blk)) k) (Ex.exit 0) (S.rdel_x0_0 l f lo len lo2 len2 rw rg rn nw ov (z0) (z1) (z2) (z3)) = oK (fun v : Nat × Nat × List (Option Nat) × BL × Nat × Nat × Int × Int × Int × Int × Bool => k (.slice 1 0 v.1 v.2.1 none) [(.fam 57 (Cd.pair (Cd.int .i64) (Cd.pair (Cd.int .i64) (Cd.pair (Cd.int .i64) Cd.bool))) v.2.2.1 v.2.2.2.1), (.var [(.ptr 2 (0) 0)]), (.var [(.slice 1 0 v.2.2.2.2.1 v.2.2.2.2.2.1 none), (.int .i64 v.2.2.2.2.2.2.1), (.int .i64 v.2.2.2.2.2.2.2.1), (.int .i64 v.2.2.2.2.2.2.2.2.1), (.int .i64 v.2.2.2.2.2.2.2.2.2.1), (.bool v.2.2.2.2.2.2.2.2.2.2)])]) (S.rdel_a0_0 fu l f lo len lo2 len2 rw rg rn nw ov z0 z1 z2 z3) :=
  (S.rdel_a0_0_k fu l f lo len lo2 len2 rw rg rn nw ov z0 z1 z2 z3 k).trans (bif_lift (f := (oK (fun v : Nat × Nat × List (Option Nat) × BL × Nat × Nat × Int × Int × Int × Int × Bool => k (.slice 1 0 v.1 v.2.1 none) [(.fam 57 (Cd.pair (Cd.int .i64) (Cd.pair (Cd.int .i64) (Cd.pair (Cd.int .i64) Cd.bool))) v.2.2.1 v.2.2.2.1), (.var [(.ptr 2 (0) 0)]), (.var [(.slice 1 0 v.2.2.2.2.1 v.2.2.2.2.2.1 none), (.int .i64 v.2.2.2.2.2.2.1), (.int .i64 v.2.2.2.2.2.2.2.1), (.int .i64 v.2.2.2.2.2.2.2.2.1), (.int .i64 v.2.2.2.2.2.2.2.2.2.1), (.bool v.2.2.2.2.2.2.2.2.2.2)])]))) (bif_lift (f := (oK (fun v : Nat × Nat × List (Option Nat) × BL × Nat × Nat × Int × Int × Int × Int × Bool => k (.slice 1 0 v.1 v.2.1 none) [(.fam 57 (Cd.pair (Cd.int .i64) (Cd.pair (Cd.int .i64) (Cd.pair (Cd.int .i64) Cd.bool))) v.2.2.1 v.2.2.2.1), (.var [(.ptr 2 (0) 0)]), (.var [(.slice 1 0 v.2.2.2.2.1 v.2.2.2.2.2.1 none), (.int .i64 v.2.2.2.2.2.2.1), (.int .i64 v.2.2.2.2.2.2.2.1), (.int .i64 v.2.2.2.2.2.2.2.2.1), (.int .i64 v.2.2.2.2.2.2.2.2.2.1), (.bool v.2.2.2.2.2.2.2.2.2.2)])]))) (bif_lift (f := (oK (fun v : Nat × Nat × List (Option Nat) × BL × Nat × Nat × Int × Int × Int × Int × Bool => k (.slice 1 0 v.1 v.2.1 none) [(.fam 57 (Cd.pair (Cd.int .i64) (Cd.pair (Cd.int .i64) (Cd.pair (Cd.int .i64) Cd.bool))) v.2.2.1 v.2.2.2.1), (.var [(.ptr 2 (0) 0)]), (.var [(.slice 1 0 v.2.2.2.2.1 v.2.2.2.2.2.1 none), (.int .i64 v.2.2.2.2.2.2.1), (.int .i64 v.2.2.2.2.2.2.2.1), (.int .i64 v.2.2.2.2.2.2.2.2.1), (.int .i64 v.2.2.2.2.2.2.2.2.2.1), (.bool v.2.2.2.2.2.2.2.2.2.2)])]))) rfl rfl) rfl) rfl)
theorem S.rdel_k {R : Type} (fu : Nat) (l : FL) (f : BL) (lo len lo2 len2 : Nat) (rw rg rn nw : Int) (ov : Bool) (k : AVal → List Blk → Option R) : fnEval tis F33 fu G27 Try.f33 [.slice 1 0 lo len none, .func 34 [.ptr 1 0 0]] [.fam 57 (.pair (.int .i64) (.pair (.int .i64) (.pair (.int .i64) .bool))) l f, .var [.ptr 2 0 0], .var [.slice 1 0 lo2 len2 none, .int .i64 rw, .int .i64 rg, .int .i64 rn, .int .i64 nw, .bool ov]] k =
  ((optK (S.rix 100000 l f lo len lo2 len2 rw rg rn nw ov) fun o2 =>
    bif decide (o2 = -1) then
      k (.slice 1 0 lo len Option.none) ([.fam 57 (Cd.pair (Cd.int .i64) (Cd.pair (Cd.int .i64) (Cd.pair (Cd.int .i64) Cd.bool))) l f, .var [.ptr 2 0 0], .var [.slice 1 0 lo2 len2 Option.none, .int .i64 rw, .int .i64 rg, .int .i64 rn, .int .i64 nw, .bool ov]])
    else
      loopRun (C_rdel fu l f lo len lo2 len2 rw rg rn nw ov) G27 S.rdel_b0 fu (S.rdel_s0 l f lo len lo2 len2 rw rg rn nw ov (o2) (Go.IntKind.wrap .i64 (o2 + 1)) (l)) (contOf (C_rdel fu l f lo len lo2 len2 rw rg rn nw ov) G27 (bodyOf Try.f33) [1, 1, 1, 0, 1, 0] (retK tis F33 Try.f33 (List.length ([.fam 57 (.pair (.int .i64) (.pair (.int .i64) (.pair (.int .i64) .bool))) l f, .var [.ptr 2 0 0], .var [.slice 1 0 lo2 len2 none, .int .i64 rw, .int .i64 rg, .int .i64 rn, .int .i64 nw, .bool ov]] : List Blk)) k)))) := by kernel_rfl
def S.rdel (fu : Nat) (l : FL) (f : BL) (lo len lo2 len2 : Nat) (rw rg rn nw : Int) (ov : Bool) : Option (Nat × Nat × List (Option Nat) × BL × Nat × Nat × Int × Int × Int × Int × Bool) :=
  (optK (S.rix 100000 l f lo len lo2 len2 rw rg rn nw ov) fun o2 =>
    bif decide (o2 = -1) then
      some (lo, len, l, f, lo2, len2, rw, rg, rn, nw, ov)
    else
      optK (S.rdel_l0 fu l f lo len lo2 len2 rw rg rn nw ov fu (o2) (Go.IntKind.wrap .i64 (o2 + 1)) (l)) (fun z : Int × Int × Bool × List (Option Nat) => S.rdel_a0_0 fu l f lo len lo2 len2 rw rg rn nw ov (z.1) (z.2.1) (z.2.2.1) (z.2.2.2)))
theorem S.rdel_v {R : Type} (fu : Nat) (l : FL) (f : BL) (lo len lo2 len2 : Nat) (rw rg rn nw : Int) (ov : Bool) (k : AVal → List Blk → Option R) : fnEval tis F33 fu G27 Try.f33 [.slice 1 0 lo len none, .func 34 [.ptr 1 0 0]] [.fam 57 (.pair (.int .i64) (.pair (.int .i64) (.pair (.int .i64) .bool))) l f, .var [.ptr 2 0 0], .var [.slice 1 0 lo2 len2 none, .int .i64 rw, .int .i64 rg, .int .i64 rn, .int .i64 nw, .bool ov]] k = oK (fun v : Nat × Nat × List (Option Nat) × BL × Nat × Nat × Int × Int × Int × Int × Bool => k (.slice 1 0 v.1 v.2.1 none) [(.fam 57 (Cd.pair (Cd.int .i64) (Cd.pair (Cd.int .i64) (Cd.pair (Cd.int .i64) Cd.bool))) v.2.2.1 v.2.2.2.1), (.var [(.ptr 2 (0) 0)]), (.var [(.slice 1 0 v.2.2.2.2.1 v.2.2.2.2.2.1 none), (.int .i64 v.2.2.2.2.2.2.1), (.int .i64 v.2.2.2.2.2.2.2.1), (.int .i64 v.2.2.2.2.2.2.2.2.1), (.int .i64 v.2.2.2.2.2.2.2.2.2.1), (.bool v.2.2.2.2.2.2.2.2.2.2)])]) (S.rdel fu l f lo len lo2 len2 rw rg rn nw ov) :=
  (S.rdel_k fu l f lo len lo2 len2 rw rg rn nw ov k).trans (opt_lift fun o2 => (bif_lift (f := (oK (fun v : Nat × Nat × List (Option Nat) × BL × Nat × Nat × Int × Int × Int × Int × Bool => k (.slice 1 0 v.1 v.2.1 none) [(.fam 57 (Cd.pair (Cd.int .i64) (Cd.pair (Cd.int .i64) (Cd.pair (Cd.int .i64) Cd.bool))) v.2.2.1 v.2.2.2.1), (.var [(.ptr 2 (0) 0)]), (.var [(.slice 1 0 v.2.2.2.2.1 v.2.2.2.2.2.1 none), (.int .i64 v.2.2.2.2.2.2.1), (.int .i64 v.2.2.2.2.2.2.2.1), (.int .i64 v.2.2.2.2.2.2.2.2.1), (.int .i64 v.2.2.2.2.2.2.2.2.2.1), (.bool v.2.2.2.2.2.2.2.2.2.2)])]))) rfl (arr_lift (S.rdel_l0_v fu l f lo len lo2 len2 rw rg rn nw ov (contOf (C_rdel fu l f lo len lo2 len2 rw rg rn nw ov) G27 (bodyOf Try.f33) [1, 1, 1, 0, 1, 0] (retK tis F33 Try.f33 (List.length ([.fam 57 (.pair (.int .i64) (.pair (.int .i64) (.pair (.int .i64) .bool))) l f, .var [.ptr 2 0 0], .var [.slice 1 0 lo2 len2 none, .int .i64 rw, .int .i64 rg, .int .i64 rn, .int .i64 nw, .bool ov]] : List Blk)) k)) fu (o2) (Go.IntKind.wrap .i64 (o2 + 1)) (l)) ((fun z => S.rdel_a0_0_v fu l f lo len lo2 len2 rw rg rn nw ov (z.1) (z.2.1) (z.2.2.1) (z.2.2.2) k)))))
noncomputable def C_rdel1 (fu : Nat) (rw rg rn nw : Int) (ov : Bool) : Cfg := Cfg.of tis F33 fu (List.length ([.var [.ptr 1 0 0], .var [.nils, .int .i64 rw, .int .i64 rg, .int .i64 rn, .int .i64 nw, .bool ov]] : List Blk)) Try.f33.ntmps
noncomputable def S.rdel1_b0 : Code := codeAt (bodyOf Try.f33) [1, 1, 1, 0, 1, 0, 0]
theorem S.rdel1_k {R : Type} (fu : Nat) (rw rg rn nw : Int) (ov : Bool) (k : AVal → List Blk → Option R) : fnEval tis F33 fu G27 Try.f33 [.nils, .func 34 [.ptr 0 0 0]] [.var [.ptr 1 0 0], .var [.nils, .int .i64 rw, .int .i64 rg, .int .i64 rn, .int .i64 nw, .bool ov]] k =
  (k (.nils) ([.var [.ptr 1 0 0], .var [.nils, .int .i64 rw, .int .i64 rg, .int .i64 rn, .int .i64 nw, .bool ov]])) := by kernel_rfl
def S.rdel1 (fu : Nat) (rw rg rn nw : Int) (ov : Bool) : Option (Int × Int × Int × Int × Bool) :=
  some (rw, rg, rn, nw, ov)
theorem S.rdel1_v {R : Type} (fu : Nat) (rw rg rn nw : Int) (ov : Bool) (k : AVal → List Blk → Option R) : fnEval tis F33 fu G27 Try.f33 [.nils, .func 34 [.ptr 0 0 0]] [.var [.ptr 1 0 0], .var [.nils, .int .i64 rw, .int .i64 rg, .int .i64 rn, .int .i64 nw, .bool ov]] k = oK (fun v : Int × Int × Int × Int × Bool => k .nils [(.var [(.ptr 1 (0) 0)]), (.var [.nils, (.int .i64 v.1), (.int .i64 v.2.1), (.int .i64 v.2.2.1), (.int .i64 v.2.2.2.1), (.bool v.2.2.2.2)])]) (S.rdel1 fu rw rg rn nw ov) :=
  (S.rdel1_k fu rw rg rn nw ov k).trans rfl
def H33 : Hnd := fun R args σ k => match args, σ with
  | [.slice 1 0 lo len none, .func 34 [.ptr 1 0 0]], [.fam 57 (.pair (.int .i64) (.pair (.int .i64) (.pair (.int .i64) .bool))) l f, .var [.ptr 2 0 0], .var [.slice 1 0 lo2 len2 none, .int .i64 rw, .int .i64 rg, .int .i64 rn, .int .i64 nw, .bool ov]] => oK (fun v : Nat × Nat × List (Option Nat) × BL × Nat × Nat × Int × Int × Int × Int × Bool => k (.slice 1 0 v.1 v.2.1 none) [(.fam 57 (Cd.pair (Cd.int .i64) (Cd.pair (Cd.int .i64) (Cd.pair (Cd.int .i64) Cd.bool))) v.2.2.1 v.2.2.2.1), (.var [(.ptr 2 (0) 0)]), (.var [(.slice 1 0 v.2.2.2.2.1 v.2.2.2.2.2.1 none), (.int .i64 v.2.2.2.2.2.2.1), (.int .i64 v.2.2.2.2.2.2.2.1), (.int .i64 v.2.2.2.2.2.2.2.2.1), (.int .i64 v.2.2.2.2.2.2.2.2.2.1), (.bool v.2.2.2.2.2.2.2.2.2.2)])]) (S.rdel 100000 l f lo len lo2 len2 rw rg rn nw ov)
  | [.nils, .func 34 [.ptr 0 0 0]], [.var [.ptr 1 0 0], .var [.nils, .int .i64 rw, .int .i64 rg, .int .i64 rn, .int .i64 nw, .bool ov]] => oK (fun v : Int × Int × Int × Int × Bool => k .nils [(.var [(.ptr 1 (0) 0)]), (.var [.nils, (.int .i64 v.1), (.int .i64 v.2.1), (.int .i64 v.2.2.1), (.int .i64 v.2.2.2.1), (.bool v.2.2.2.2)])]) (S.rdel1 100000 rw rg rn nw ov)
  | _, _ => none
theorem H33_ok : HndOk Try.prog 33 H33 := hnd_ok tis tisOk mixOk G27_ok F33 Try.func33 rfl (by
  intro R args σ k r h
  unfold H33 at h
  split at h
  · rename_i lo len l f lo2 len2 rw rg rn nw ov; exact ⟨100000, (S.rdel_v 100000 l f lo len lo2 len2 rw rg rn nw ov _).trans h⟩
  · rename_i rw rg rn nw ov; exact ⟨100000, (S.rdel1_v 100000 rw rg rn nw ov _).trans h⟩
  · cases h)
def G33 : Env := Env.add 33 H33 G27
theorem G33_ok : EnvOk Try.prog G33 := envAdd_ok H33_ok G27_ok
end Go.Proofs.Ytmgnfjiogfcieaa.AB
