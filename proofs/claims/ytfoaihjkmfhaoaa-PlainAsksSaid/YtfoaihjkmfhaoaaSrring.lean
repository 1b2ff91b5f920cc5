/- The document's ring, as plain functions. -/
import Derived.Test.YtfoaihjkmfhaoaaSplain
namespace Go.Proofs.Ytfoaihjkmfhaoaa.AB
set_option linter.unusedVariables false

/-! spinnakerref1.Add -/
def F64 : FCfg := ⟨keepAt [(0, [0, 1]), (1, [0, 1, 13]), (2, [4, 5]), (3, [0, 1, 21]), (4, [4, 5]), (5, [4, 5])], loopAt [], []⟩
theorem S.radd_k {R : Type} (a b : Int) (k : AVal → List Blk → Option R) : fnEval tis F64 0 G16 Try.f64 [.int .i64 a, .int .i64 b] [] k =
  (bif decide (0 < b) then
    bif decide (Go.IntKind.wrap .i64 (9223372036854775807 - b) < a) then
      k (.tuple [.int .i64 9223372036854775807, .int .i64 2]) ([])
    else
      bif decide (b < 0) then
        bif decide (a < Go.IntKind.wrap .i64 (-9223372036854775808 - b)) then
          k (.tuple [.int .i64 (-9223372036854775808), .int .i64 2]) ([])
        else
          k (.tuple [.int .i64 (Go.IntKind.wrap .i64 (a + b)), .int .i64 0]) ([])
      else
        k (.tuple [.int .i64 (Go.IntKind.wrap .i64 (a + b)), .int .i64 0]) ([])
  else
    bif decide (b < 0) then
      bif decide (a < Go.IntKind.wrap .i64 (-9223372036854775808 - b)) then
        k (.tuple [.int .i64 (-9223372036854775808), .int .i64 2]) ([])
      else
        k (.tuple [.int .i64 (Go.IntKind.wrap .i64 (a + b)), .int .i64 0]) ([])
    else
      k (.tuple [.int .i64 (Go.IntKind.wrap .i64 (a + b)), .int .i64 0]) ([])) := by kernel_rfl
def S.radd (a b : Int) : Int × Int :=
  bif decide (0 < b) then
    bif decide (Go.IntKind.wrap .i64 (9223372036854775807 - b) < a) then
      (9223372036854775807, 2)
    else
      bif decide (b < 0) then
        bif decide (a < Go.IntKind.wrap .i64 (-9223372036854775808 - b)) then
          (-9223372036854775808, 2)
        else
          (Go.IntKind.wrap .i64 (a + b), 0)
      else
        (Go.IntKind.wrap .i64 (a + b), 0)
  else
    bif decide (b < 0) then
      bif decide (a < Go.IntKind.wrap .i64 (-9223372036854775808 - b)) then
        (-9223372036854775808, 2)
      else
        (Go.IntKind.wrap .i64 (a + b), 0)
    else
      (Go.IntKind.wrap .i64 (a + b), 0)
theorem S.radd_v {R : Type} (a b : Int) (k : AVal → List Blk → Option R) : fnEval tis F64 0 G16 Try.f64 [.int .i64 a, .int .i64 b] [] k = k (.tuple [(.int .i64 (S.radd a b).1), (.int .i64 (S.radd a b).2)]) [] :=
  (S.radd_k a b k).trans (bif_lift (f := (fun v : Int × Int => k (.tuple [(.int .i64 v.1), (.int .i64 v.2)]) [])) (bif_lift (f := (fun v : Int × Int => k (.tuple [(.int .i64 v.1), (.int .i64 v.2)]) [])) rfl (bif_lift (f := (fun v : Int × Int => k (.tuple [(.int .i64 v.1), (.int .i64 v.2)]) [])) (bif_lift (f := (fun v : Int × Int => k (.tuple [(.int .i64 v.1), (.int .i64 v.2)]) [])) rfl rfl) rfl)) (bif_lift (f := (fun v : Int × Int => k (.tuple [(.int .i64 v.1), (.int .i64 v.2)]) [])) (bif_lift (f := (fun v : Int × Int => k (.tuple [(.int .i64 v.1), (.int .i64 v.2)]) [])) rfl rfl) rfl))
def H64 : Hnd := fun R args σ k => match args, σ with
  | [.int .i64 a, .int .i64 b], [] => k (.tuple [(.int .i64 (S.radd a b).1), (.int .i64 (S.radd a b).2)]) []
  | _, _ => none
theorem H64_ok : HndOk Try.prog 64 H64 := hnd_ok tis tisOk mixOk G16_ok F64 Try.func64 rfl (by
  intro R args σ k r h
  unfold H64 at h
  split at h
  · rename_i a b; exact ⟨0, (S.radd_v a b _).trans h⟩
  · cases h)
def G64 : Env := Env.add 64 H64 G16
theorem G64_ok : EnvOk Try.prog G64 := envAdd_ok H64_ok G16_ok

/-! spinnakerref5.Taken -/
def F51 : FCfg := ⟨keepAt [(0, [1]), (1, [2])], loopAt [], []⟩
theorem S.rtaken_k {R : Type} (x v : Int) (k : AVal → List Blk → Option R) : fnEval tis F51 0 G64 Try.f51 [.agg [.int .i64 x, .int .i64 v]] [] k =
  (bif decide (0 ≤ x) then
    bif decide (x ≤ 1099511627776) then
      k (.bool (decide (0 ≤ v))) ([])
    else
      k (.bool false) ([])
  else
    k (.bool false) ([])) := by kernel_rfl
def S.rtaken (x v : Int) : Bool :=
  bif decide (0 ≤ x) then
    bif decide (x ≤ 1099511627776) then
      (decide (0 ≤ v))
    else
      (false)
  else
    (false)
theorem S.rtaken_v {R : Type} (x v : Int) (k : AVal → List Blk → Option R) : fnEval tis F51 0 G64 Try.f51 [.agg [.int .i64 x, .int .i64 v]] [] k = k (.bool (S.rtaken x v)) [] :=
  (S.rtaken_k x v k).trans (bif_lift (f := (fun v : Bool => k (.bool v) [])) (bif_lift (f := (fun v : Bool => k (.bool v) [])) rfl rfl) rfl)
def H51 : Hnd := fun R args σ k => match args, σ with
  | [.agg [.int .i64 x, .int .i64 v]], [] => k (.bool (S.rtaken x v)) []
  | _, _ => none
theorem H51_ok : HndOk Try.prog 51 H51 := hnd_ok tis tisOk mixOk G64_ok F51 Try.func51 rfl (by
  intro R args σ k r h
  unfold H51 at h
  split at h
  · rename_i x v; exact ⟨0, (S.rtaken_v x v _).trans h⟩
  · cases h)
def G51 : Env := Env.add 51 H51 G64
theorem G51_ok : EnvOk Try.prog G51 := envAdd_ok H51_ok G64_ok

/-! spinnakerref5.NewRing -/
def F48 : FCfg := ⟨keepAt [(0, [0, 1]), (1, [0, 1, 19]), (2, [4]), (3, [4])], loopAt [], []⟩
theorem S.rnewring_k {R : Type} (w g : Int) (k : AVal → List Blk → Option R) : fnEval tis F48 0 G51 Try.f48 [.int .i64 w, .int .i64 g] [] k =
  (bif decide (w < 1) then
    k (.nilp) ([])
  else
    bif decide (600 < w) then
      k (.nilp) ([])
    else
      bif decide (g < 1) then
        k (.nilp) ([])
      else
        bif decide (w < g) then
          k (.nilp) ([])
        else
          k (.ptr 0 0 0) ([.var [.int .i64 w, .int .i64 g, .nils, .int .i64 (-1), .bool false]])) := by kernel_rfl
def S.rnewring (w g : Int) : (Unit) ⊕ (Int × Int) :=
  bif decide (w < 1) then
    (.inl ())
  else
    bif decide (600 < w) then
      (.inl ())
    else
      bif decide (g < 1) then
        (.inl ())
      else
        bif decide (w < g) then
          (.inl ())
        else
          (.inr (w, g))
theorem S.rnewring_v {R : Type} (w g : Int) (k : AVal → List Blk → Option R) : fnEval tis F48 0 G51 Try.f48 [.int .i64 w, .int .i64 g] [] k = (Sum.elim (fun v : Unit => k .nilp []) (fun v : Int × Int => k (.ptr 0 0 0) [(.var [(.int .i64 v.1), (.int .i64 v.2), .nils, (.int .i64 (-1)), (.bool (false))])])) (S.rnewring w g) :=
  (S.rnewring_k w g k).trans (bif_lift (f := (Sum.elim (fun v : Unit => k .nilp []) (fun v : Int × Int => k (.ptr 0 0 0) [(.var [(.int .i64 v.1), (.int .i64 v.2), .nils, (.int .i64 (-1)), (.bool (false))])]))) rfl (bif_lift (f := (Sum.elim (fun v : Unit => k .nilp []) (fun v : Int × Int => k (.ptr 0 0 0) [(.var [(.int .i64 v.1), (.int .i64 v.2), .nils, (.int .i64 (-1)), (.bool (false))])]))) rfl (bif_lift (f := (Sum.elim (fun v : Unit => k .nilp []) (fun v : Int × Int => k (.ptr 0 0 0) [(.var [(.int .i64 v.1), (.int .i64 v.2), .nils, (.int .i64 (-1)), (.bool (false))])]))) rfl (bif_lift (f := (Sum.elim (fun v : Unit => k .nilp []) (fun v : Int × Int => k (.ptr 0 0 0) [(.var [(.int .i64 v.1), (.int .i64 v.2), .nils, (.int .i64 (-1)), (.bool (false))])]))) rfl rfl))))
def H48 : Hnd := fun R args σ k => match args, σ with
  | [.int .i64 w, .int .i64 g], [] => (Sum.elim (fun v : Unit => k .nilp []) (fun v : Int × Int => k (.ptr 0 0 0) [(.var [(.int .i64 v.1), (.int .i64 v.2), .nils, (.int .i64 (-1)), (.bool (false))])])) (S.rnewring w g)
  | _, _ => none
theorem H48_ok : HndOk Try.prog 48 H48 := hnd_ok tis tisOk mixOk G51_ok F48 Try.func48 rfl (by
  intro R args σ k r h
  unfold H48 at h
  split at h
  · rename_i w g; exact ⟨0, (S.rnewring_v w g _).trans h⟩
  · cases h)
def G48 : Env := Env.add 48 H48 G51
theorem G48_ok : EnvOk Try.prog G48 := envAdd_ok H48_ok G51_ok

/-! (*spinnakerref5.Ring).N -/
def F62 : FCfg := ⟨keepAt [(0, [0]), (1, [2])], loopAt [], []⟩
theorem S.rN_k {R : Type} (r : RL) (lo len : Nat) (rw rg nw : Int) (ov : Bool) (k : AVal → List Blk → Option R) : fnEval tis F62 0 G48 Try.f62 [.ptr 0 0 0] [.var [.int .i64 rw, .int .i64 rg, .slice 2 1 lo len none, .int .i64 nw, .bool ov], .rows (.pair (.int .i64) (.int .i64)) r false] k =
  (bif decide (rg = 0) then
    none
  else
    k (.int .i64 (Go.IntKind.wrap .i64 (Int.tdiv (Go.IntKind.wrap .i64 (Go.IntKind.wrap .i64 (rw + rg) - 1)) rg))) ([.var [.int .i64 rw, .int .i64 rg, .slice 2 1 lo len Option.none, .int .i64 nw, .bool ov], .rows (Cd.pair (Cd.int .i64) (Cd.int .i64)) r false])) := by kernel_rfl
def S.rN (r : RL) (lo len : Nat) (rw rg nw : Int) (ov : Bool) : Option (Int) :=
  bif decide (rg = 0) then
    none
  else
    some (Go.IntKind.wrap .i64 (Int.tdiv (Go.IntKind.wrap .i64 (Go.IntKind.wrap .i64 (rw + rg) - 1)) rg))
theorem S.rN_v {R : Type} (r : RL) (lo len : Nat) (rw rg nw : Int) (ov : Bool) (k : AVal → List Blk → Option R) : fnEval tis F62 0 G48 Try.f62 [.ptr 0 0 0] [.var [.int .i64 rw, .int .i64 rg, .slice 2 1 lo len none, .int .i64 nw, .bool ov], .rows (.pair (.int .i64) (.int .i64)) r false] k = oK (fun v : Int => k (.int .i64 v) [.var [.int .i64 rw, .int .i64 rg, .slice 2 1 lo len none, .int .i64 nw, .bool ov], .rows (.pair (.int .i64) (.int .i64)) r false]) (S.rN r lo len rw rg nw ov) :=
  (S.rN_k r lo len rw rg nw ov k).trans (bif_lift (f := (oK (fun v : Int => k (.int .i64 v) [.var [.int .i64 rw, .int .i64 rg, .slice 2 1 lo len none, .int .i64 nw, .bool ov], .rows (.pair (.int .i64) (.int .i64)) r false]))) rfl rfl)
theorem S.rN1_k {R : Type} (rw rg nw : Int) (ov : Bool) (k : AVal → List Blk → Option R) : fnEval tis F62 0 G48 Try.f62 [.ptr 0 0 0] [.var [.int .i64 rw, .int .i64 rg, .nils, .int .i64 nw, .bool ov]] k =
  (bif decide (rg = 0) then
    none
  else
    k (.int .i64 (Go.IntKind.wrap .i64 (Int.tdiv (Go.IntKind.wrap .i64 (Go.IntKind.wrap .i64 (rw + rg) - 1)) rg))) ([.var [.int .i64 rw, .int .i64 rg, .nils, .int .i64 nw, .bool ov]])) := by kernel_rfl
def S.rN1 (rw rg nw : Int) (ov : Bool) : Option (Int) :=
  bif decide (rg = 0) then
    none
  else
    some (Go.IntKind.wrap .i64 (Int.tdiv (Go.IntKind.wrap .i64 (Go.IntKind.wrap .i64 (rw + rg) - 1)) rg))
theorem S.rN1_v {R : Type} (rw rg nw : Int) (ov : Bool) (k : AVal → List Blk → Option R) : fnEval tis F62 0 G48 Try.f62 [.ptr 0 0 0] [.var [.int .i64 rw, .int .i64 rg, .nils, .int .i64 nw, .bool ov]] k = oK (fun v : Int => k (.int .i64 v) [.var [.int .i64 rw, .int .i64 rg, .nils, .int .i64 nw, .bool ov]]) (S.rN1 rw rg nw ov) :=
  (S.rN1_k rw rg nw ov k).trans (bif_lift (f := (oK (fun v : Int => k (.int .i64 v) [.var [.int .i64 rw, .int .i64 rg, .nils, .int .i64 nw, .bool ov]]))) rfl rfl)
def H62 : Hnd := fun R args σ k => match args, σ with
  | [.ptr 0 0 0], [.var [.int .i64 rw, .int .i64 rg, .slice 2 1 lo len none, .int .i64 nw, .bool ov], .rows (.pair (.int .i64) (.int .i64)) r false] => oK (fun v : Int => k (.int .i64 v) []) (S.rN r lo len rw rg nw ov)
  | [.ptr 0 0 0], [.var [.int .i64 rw, .int .i64 rg, .nils, .int .i64 nw, .bool ov]] => oK (fun v : Int => k (.int .i64 v) []) (S.rN1 rw rg nw ov)
  | _, _ => none
theorem H62_ok : HndOk Try.prog 62 H62 := hnd_ok_pure tis tisOk mixOk G48_ok F62 Try.func62 rfl (by
  intro R args σ k r h
  unfold H62 at h
  split at h
  · rename_i rw rg lo len nw ov r; exact ⟨0, (S.rN_v r lo len rw rg nw ov _).trans ((congrArg (fun f => oK f (S.rN r lo len rw rg nw ov)) (funext fun v => if_pos rfl)).trans h)⟩
  · rename_i rw rg nw ov; exact ⟨0, (S.rN1_v rw rg nw ov _).trans ((congrArg (fun f => oK f (S.rN1 rw rg nw ov)) (funext fun v => if_pos rfl)).trans h)⟩
  · cases h)
def G62 : Env := Env.add 62 H62 G48
theorem G62_ok : EnvOk Try.prog G62 := envAdd_ok H62_ok G48_ok

/-! (*spinnakerref5.Ring).bucket -/
def F61 : FCfg := ⟨keepAt [(0, [0, 1]), (1, [4])], loopAt [], []⟩
theorem S.rbucket_k {R : Type} (r : RL) (lo len : Nat) (rw rg nw : Int) (ov : Bool) (t : Int) (k : AVal → List Blk → Option R) : fnEval tis F61 0 G62 Try.f61 [.ptr 0 0 0, .int .i64 t] [.var [.int .i64 rw, .int .i64 rg, .slice 2 1 lo len none, .int .i64 nw, .bool ov], .rows (.pair (.int .i64) (.int .i64)) r false] k =
  (bif decide (rg = 0) then
    none
  else
    k (.int .i64 (Go.IntKind.wrap .i64 (Int.tdiv t rg))) ([.var [.int .i64 rw, .int .i64 rg, .slice 2 1 lo len Option.none, .int .i64 nw, .bool ov], .rows (Cd.pair (Cd.int .i64) (Cd.int .i64)) r false])) := by kernel_rfl
def S.rbucket (r : RL) (lo len : Nat) (rw rg nw : Int) (ov : Bool) (t : Int) : Option (Int) :=
  bif decide (rg = 0) then
    none
  else
    some (Go.IntKind.wrap .i64 (Int.tdiv t rg))
theorem S.rbucket_v {R : Type} (r : RL) (lo len : Nat) (rw rg nw : Int) (ov : Bool) (t : Int) (k : AVal → List Blk → Option R) : fnEval tis F61 0 G62 Try.f61 [.ptr 0 0 0, .int .i64 t] [.var [.int .i64 rw, .int .i64 rg, .slice 2 1 lo len none, .int .i64 nw, .bool ov], .rows (.pair (.int .i64) (.int .i64)) r false] k = oK (fun v : Int => k (.int .i64 v) [.var [.int .i64 rw, .int .i64 rg, .slice 2 1 lo len none, .int .i64 nw, .bool ov], .rows (.pair (.int .i64) (.int .i64)) r false]) (S.rbucket r lo len rw rg nw ov t) :=
  (S.rbucket_k r lo len rw rg nw ov t k).trans (bif_lift (f := (oK (fun v : Int => k (.int .i64 v) [.var [.int .i64 rw, .int .i64 rg, .slice 2 1 lo len none, .int .i64 nw, .bool ov], .rows (.pair (.int .i64) (.int .i64)) r false]))) rfl rfl)
theorem S.rbucket1_k {R : Type} (rw rg nw : Int) (ov : Bool) (t : Int) (k : AVal → List Blk → Option R) : fnEval tis F61 0 G62 Try.f61 [.ptr 0 0 0, .int .i64 t] [.var [.int .i64 rw, .int .i64 rg, .nils, .int .i64 nw, .bool ov]] k =
  (bif decide (rg = 0) then
    none
  else
    k (.int .i64 (Go.IntKind.wrap .i64 (Int.tdiv t rg))) ([.var [.int .i64 rw, .int .i64 rg, .nils, .int .i64 nw, .bool ov]])) := by kernel_rfl
def S.rbucket1 (rw rg nw : Int) (ov : Bool) (t : Int) : Option (Int) :=
  bif decide (rg = 0) then
    none
  else
    some (Go.IntKind.wrap .i64 (Int.tdiv t rg))
theorem S.rbucket1_v {R : Type} (rw rg nw : Int) (ov : Bool) (t : Int) (k : AVal → List Blk → Option R) : fnEval tis F61 0 G62 Try.f61 [.ptr 0 0 0, .int .i64 t] [.var [.int .i64 rw, .int .i64 rg, .nils, .int .i64 nw, .bool ov]] k = oK (fun v : Int => k (.int .i64 v) [.var [.int .i64 rw, .int .i64 rg, .nils, .int .i64 nw, .bool ov]]) (S.rbucket1 rw rg nw ov t) :=
  (S.rbucket1_k rw rg nw ov t k).trans (bif_lift (f := (oK (fun v : Int => k (.int .i64 v) [.var [.int .i64 rw, .int .i64 rg, .nils, .int .i64 nw, .bool ov]]))) rfl rfl)
def H61 : Hnd := fun R args σ k => match args, σ with
  | [.ptr 0 0 0, .int .i64 t], [.var [.int .i64 rw, .int .i64 rg, .slice 2 1 lo len none, .int .i64 nw, .bool ov], .rows (.pair (.int .i64) (.int .i64)) r false] => oK (fun v : Int => k (.int .i64 v) []) (S.rbucket r lo len rw rg nw ov t)
  | [.ptr 0 0 0, .int .i64 t], [.var [.int .i64 rw, .int .i64 rg, .nils, .int .i64 nw, .bool ov]] => oK (fun v : Int => k (.int .i64 v) []) (S.rbucket1 rw rg nw ov t)
  | _, _ => none
theorem H61_ok : HndOk Try.prog 61 H61 := hnd_ok_pure tis tisOk mixOk G62_ok F61 Try.func61 rfl (by
  intro R args σ k r h
  unfold H61 at h
  split at h
  · rename_i t rw rg lo len nw ov r; exact ⟨0, (S.rbucket_v r lo len rw rg nw ov t _).trans ((congrArg (fun f => oK f (S.rbucket r lo len rw rg nw ov t)) (funext fun v => if_pos rfl)).trans h)⟩
  · rename_i t rw rg nw ov; exact ⟨0, (S.rbucket1_v rw rg nw ov t _).trans ((congrArg (fun f => oK f (S.rbucket1 rw rg nw ov t)) (funext fun v => if_pos rfl)).trans h)⟩
  · cases h)
def G61 : Env := Env.add 61 H61 G62
theorem G61_ok : EnvOk Try.prog G61 := envAdd_ok H61_ok G62_ok

/-! (*spinnakerref5.Ring).forget -/
def F63 : FCfg := ⟨keepAt [(0, [0, 2]), (1, [0, 2, 3]), (2, [0, 2, 3, 10]), (3, [0, 2, 3]), (4, [0, 2, 3, 30]), (5, [0, 2, 3]), (6, [])], loopAt [(2, [0, 2, 3], [⟨true, 2, 0, (.pair (.int .i64) (.int .i64))⟩])], []⟩
noncomputable def C_rforget (fu : Nat) (r : RL) (lo len : Nat) (rw rg nw : Int) (ov : Bool) : Cfg := Cfg.of tis F63 fu (List.length ([.var [.int .i64 rw, .int .i64 rg, .slice 2 1 lo len none, .int .i64 nw, .bool ov], .rows (.pair (.int .i64) (.int .i64)) r false] : List Blk)) Try.f63.ntmps
noncomputable def S.rforget_b0 : Code := codeAt (bodyOf Try.f63) [1, 0, 1, 0, 0]
noncomputable def S.rforget_s0 (r : RL) (lo len : Nat) (rw rg nw : Int) (ov : Bool) (y0 : Nat) (y1 : Int) (y2 : List (Int × Int)) : St := ⟨[(0, (.ptr 0 (0) 0)), (2, (.slice 2 2 (0) (y0) none)), (3, (.int .i64 (y1)))], [(.var [(.int .i64 (rw)), (.int .i64 (rg)), (.slice 2 1 (lo) (len) none), (.int .i64 (nw)), (.bool (ov))]), (.rows (Cd.pair (Cd.int .i64) (Cd.int .i64)) (r) false), (.rows (Cd.pair (Cd.int .i64) (Cd.int .i64)) (y2) false)]⟩
noncomputable def S.rforget_x0_0 (r : RL) (lo len : Nat) (rw rg nw : Int) (ov : Bool) (z0 : Nat) (z1 : Int) (z2 : Bool) (z3 : List (Int × Int)) : St := ⟨[(0, (.ptr 0 (0) 0)), (2, (.slice 2 2 (0) (z0) none)), (3, (.int .i64 (z1))), (10, (.bool (z2)))], [(.var [(.int .i64 (rw)), (.int .i64 (rg)), (.slice 2 1 (lo) (len) none), (.int .i64 (nw)), (.bool (ov))]), (.rows (Cd.pair (Cd.int .i64) (Cd.int .i64)) (r) false), (.rows (Cd.pair (Cd.int .i64) (Cd.int .i64)) (z3) false)]⟩
theorem S.rforget_l0_k {R : Type} (fu : Nat) (r : RL) (lo len : Nat) (rw rg nw : Int) (ov : Bool) (n : Nat) (K : Ex → St → Option R) (y0 : Nat) (y1 : Int) (y2 : List (Int × Int)) : loopRun (C_rforget fu r lo len rw rg nw ov) G61 S.rforget_b0 (n + 1) (S.rforget_s0 r lo len rw rg nw ov (y0) (y1) (y2)) K =
  (bif decide (y1 < ((len : Nat) : Int)) then
    bif inB y1 len then
      (optK (r[Int.toNat y1 + lo]?) fun o4 =>
        (optK (S.rbucket r lo len rw rg nw ov (Prod.fst o4)) fun o5 =>
          (optK (S.rN r lo len rw rg nw ov) fun o6 =>
            bif decide (Go.IntKind.wrap .i64 (nw - o5) < o6) then
              bif inB y1 len then
                (optK (r[Int.toNat y1 + lo]?) fun o9 =>
                  bif Nat.beq 2 2 && Nat.blt 0 16 && Nat.beq 2 2 && Nat.beq 2 2 && Nat.beq 2 2 && Nat.blt 0 1 && !Nat.beq 2 3 && Nat.ble ((y0 + 1) * 16) 35184372088832 then
                    loopRun (C_rforget fu r lo len rw rg nw ov) G61 S.rforget_b0 n (S.rforget_s0 r lo len rw rg nw ov (List.length (cutL y2 0 y0 ++ cutL [(Prod.fst o9, Prod.snd o9)] 0 1)) (Go.IntKind.wrap .i64 (y1 + 1)) (cutL y2 0 y0 ++ cutL [(Prod.fst o9, Prod.snd o9)] 0 1)) K
                  else
                    none)
              else
                none
            else
              loopRun (C_rforget fu r lo len rw rg nw ov) G61 S.rforget_b0 n (S.rforget_s0 r lo len rw rg nw ov (y0) (Go.IntKind.wrap .i64 (y1 + 1)) (y2)) K)))
    else
      none
  else
    K (Ex.exit 0) (S.rforget_x0_0 r lo len rw rg nw ov (y0) (y1) (decide (y1 < ((len : Nat) : Int))) (y2))) := by kernel_rfl
def S.rforget_l0 (fu : Nat) (r : RL) (lo len : Nat) (rw rg nw : Int) (ov : Bool) : Nat → (Nat) → (Int) → (List (Int × Int)) → Option ((Nat × Int × Bool × List (Int × Int)))
  | 0, _, _, _ => none
  | n + 1, y0, y1, y2 =>
    bif decide (y1 < ((len : Nat) : Int)) then
      bif inB y1 len then
        (optK (r[Int.toNat y1 + lo]?) fun o4 =>
          (optK (S.rbucket r lo len rw rg nw ov (Prod.fst o4)) fun o5 =>
            (optK (S.rN r lo len rw rg nw ov) fun o6 =>
              bif decide (Go.IntKind.wrap .i64 (nw - o5) < o6) then
                bif inB y1 len then
                  (optK (r[Int.toNat y1 + lo]?) fun o9 =>
                    bif Nat.beq 2 2 && Nat.blt 0 16 && Nat.beq 2 2 && Nat.beq 2 2 && Nat.beq 2 2 && Nat.blt 0 1 && !Nat.beq 2 3 && Nat.ble ((y0 + 1) * 16) 35184372088832 then
                      (S.rforget_l0 fu r lo len rw rg nw ov n) (List.length (cutL y2 0 y0 ++ cutL [(Prod.fst o9, Prod.snd o9)] 0 1)) (Go.IntKind.wrap .i64 (y1 + 1)) (cutL y2 0 y0 ++ cutL [(Prod.fst o9, Prod.snd o9)] 0 1)
                    else
                      none)
                else
                  none
              else
                (S.rforget_l0 fu r lo len rw rg nw ov n) (y0) (Go.IntKind.wrap .i64 (y1 + 1)) (y2))))
      else
        none
    else
      some (y0, y1, decide (y1 < ((len : Nat) : Int)), y2)
theorem S.rforget_l0_v {R : Type} (fu : Nat) (r : RL) (lo len : Nat) (rw rg nw : Int) (ov : Bool) (K : Ex → St → Option R) : ∀ (n : Nat) (y0 : Nat) (y1 : Int) (y2 : List (Int × Int)), loopRun (C_rforget fu r lo len rw rg nw ov) G61 S.rforget_b0 n (S.rforget_s0 r lo len rw rg nw ov (y0) (y1) (y2)) K = oK (β := (Nat × Int × Bool × List (Int × Int))) (fun z : Nat × Int × Bool × List (Int × Int) => K (Ex.exit 0) (S.rforget_x0_0 r lo len rw rg nw ov (z.1) (z.2.1) (z.2.2.1) (z.2.2.2))) (S.rforget_l0 fu r lo len rw rg nw ov n y0 y1 y2)
  | 0, _, _, _ => rfl
  | n + 1, y0, y1, y2 => (S.rforget_l0_k fu r lo len rw rg nw ov n K y0 y1 y2).trans (bif_lift (f := (oK (β := (Nat × Int × Bool × List (Int × Int))) (fun z : Nat × Int × Bool × List (Int × Int) => K (Ex.exit 0) (S.rforget_x0_0 r lo len rw rg nw ov (z.1) (z.2.1) (z.2.2.1) (z.2.2.2))))) (bif_lift (f := (oK (β := (Nat × Int × Bool × List (Int × Int))) (fun z : Nat × Int × Bool × List (Int × Int) => K (Ex.exit 0) (S.rforget_x0_0 r lo len rw rg nw ov (z.1) (z.2.1) (z.2.2.1) (z.2.2.2))))) (opt_lift fun o4 => (opt_lift fun o5 => (opt_lift fun o6 => (bif_lift (f := (oK (β := (Nat × Int × Bool × List (Int × Int))) (fun z : Nat × Int × Bool × List (Int × Int) => K (Ex.exit 0) (S.rforget_x0_0 r lo len rw rg nw ov (z.1) (z.2.1) (z.2.2.1) (z.2.2.2))))) (bif_lift (f := (oK (β := (Nat × Int × Bool × List (Int × Int))) (fun z : Nat × Int × Bool × List (Int × Int) => K (Ex.exit 0) (S.rforget_x0_0 r lo len rw rg nw ov (z.1) (z.2.1) (z.2.2.1) (z.2.2.2))))) (opt_lift fun o9 => (bif_lift (f := (oK (β := (Nat × Int × Bool × List (Int × Int))) (fun z : Nat × Int × Bool × List (Int × Int) => K (Ex.exit 0) (S.rforget_x0_0 r lo len rw rg nw ov (z.1) (z.2.1) (z.2.2.1) (z.2.2.2))))) (S.rforget_l0_v fu r lo len rw rg nw ov K n (List.length (cutL y2 0 y0 ++ cutL [(Prod.fst o9, Prod.snd o9)] 0 1)) (Go.IntKind.wrap .i64 (y1 + 1)) (cutL y2 0 y0 ++ cutL [(Prod.fst o9, Prod.snd o9)] 0 1)) rfl)) rfl) (S.rforget_l0_v fu r lo len rw rg nw ov K n (y0) (Go.IntKind.wrap .i64 (y1 + 1)) (y2)))))) rfl) rfl)
theorem S.rforget_a0_0_k {R : Type} (fu : Nat) (r : RL) (lo len : Nat) (rw rg nw : Int) (ov : Bool) (z0 : Nat) (z1 : Int) (z2 : Bool) (z3 : List (Int × Int)) (k : AVal → List Blk → Option R) : contOf (C_rforget fu r lo len rw rg nw ov) G61 (bodyOf Try.f63) [1, 0, 1, 0] (retK tis F63 Try.f63 (List.length ([.var [.int .i64 rw, .int .i64 rg, .slice 2 1 lo len none, .int .i64 nw, .bool ov], .rows (.pair (.int .i64) (.int .i64)) r false] : List Blk)) k) (Ex.exit 0) (S.rforget_x0_0 r lo len rw rg nw ov (z0) (z1) (z2) (z3)) =
  (k (.tuple []) ([.var [.int .i64 rw, .int .i64 rg, .slice 2 2 0 z0 Option.none, .int .i64 nw, .bool ov], .rows (Cd.pair (Cd.int .i64) (Cd.int .i64)) r false, .rows (Cd.pair (Cd.int .i64) (Cd.int .i64)) z3 false])) := by kernel_rfl
def S.rforget_a0_0 (fu : Nat) (r : RL) (lo len : Nat) (rw rg nw : Int) (ov : Bool) (z0 : Nat) (z1 : Int) (z2 : Bool) (z3 : List (Int × Int)) : Option (Int × Int × Nat × Int × Bool × RL × List (Int × Int)) :=
  some (rw, rg, z0, nw, ov, r, z3)
theorem S.rforget_a0_0_v {R : Type} (fu : Nat) (r : RL) (lo len : Nat) (rw rg nw : Int) (ov : Bool) (z0 : Nat) (z1 : Int) (z2 : Bool) (z3 : List (Int × Int)) (k : AVal → List Blk → Option R) : contOf (C_rforget fu r lo len rw rg nw ov) G61 (bodyOf Try.f63) [1, 0, 1, 0] (retK tis F63 Try.f63 (List.length ([.var [.int .i64 rw, .int .i64 rg, .slice 2 1 lo len none, .int .i64 nw, .bool ov], .rows (.pair (.int .i64) (.int .i64)) r false] : List Blk)) k) (Ex.exit 0) (S.rforget_x0_0 r lo len rw rg nw ov (z0) (z1) (z2) (z3)) = oK (fun v : Int × Int × Nat × Int × Bool × RL × List (Int × Int) => k (.tuple []) [(.var [(.int .i64 v.1), (.int .i64 v.2.1), (.slice 2 2 0 v.2.2.1 none), (.int .i64 v.2.2.2.1), (.bool v.2.2.2.2.1)]), (.rows (Cd.pair (Cd.int .i64) (Cd.int .i64)) v.2.2.2.2.2.1 false), (.rows (Cd.pair (Cd.int .i64) (Cd.int .i64)) v.2.2.2.2.2.2 false)]) (S.rforget_a0_0 fu r lo len rw rg nw ov z0 z1 z2 z3) :=
  (S.rforget_a0_0_k fu r lo len rw rg nw ov z0 z1 z2 z3 k).trans rfl
theorem S.rforget_k {R : Type} (fu : Nat) (r : RL) (lo len : Nat) (rw rg nw : Int) (ov : Bool) (k : AVal → List Blk → Option R) : fnEval tis F63 fu G61 Try.f63 [.ptr 0 0 0] [.var [.int .i64 rw, .int .i64 rg, .slice 2 1 lo len none, .int .i64 nw, .bool ov], .rows (.pair (.int .i64) (.int .i64)) r false] k =
  (loopRun (C_rforget fu r lo len rw rg nw ov) G61 S.rforget_b0 fu (S.rforget_s0 r lo len rw rg nw ov (0) (0) ([])) (contOf (C_rforget fu r lo len rw rg nw ov) G61 (bodyOf Try.f63) [1, 0, 1, 0] (retK tis F63 Try.f63 (List.length ([.var [.int .i64 rw, .int .i64 rg, .slice 2 1 lo len none, .int .i64 nw, .bool ov], .rows (.pair (.int .i64) (.int .i64)) r false] : List Blk)) k))) := by kernel_rfl
def S.rforget (fu : Nat) (r : RL) (lo len : Nat) (rw rg nw : Int) (ov : Bool) : Option (Int × Int × Nat × Int × Bool × RL × List (Int × Int)) :=
  optK (S.rforget_l0 fu r lo len rw rg nw ov fu (0) (0) ([])) (fun z : Nat × Int × Bool × List (Int × Int) => S.rforget_a0_0 fu r lo len rw rg nw ov (z.1) (z.2.1) (z.2.2.1) (z.2.2.2))
theorem S.rforget_v {R : Type} (fu : Nat) (r : RL) (lo len : Nat) (rw rg nw : Int) (ov : Bool) (k : AVal → List Blk → Option R) : fnEval tis F63 fu G61 Try.f63 [.ptr 0 0 0] [.var [.int .i64 rw, .int .i64 rg, .slice 2 1 lo len none, .int .i64 nw, .bool ov], .rows (.pair (.int .i64) (.int .i64)) r false] k = oK (fun v : Int × Int × Nat × Int × Bool × RL × List (Int × Int) => k (.tuple []) [(.var [(.int .i64 v.1), (.int .i64 v.2.1), (.slice 2 2 0 v.2.2.1 none), (.int .i64 v.2.2.2.1), (.bool v.2.2.2.2.1)]), (.rows (Cd.pair (Cd.int .i64) (Cd.int .i64)) v.2.2.2.2.2.1 false), (.rows (Cd.pair (Cd.int .i64) (Cd.int .i64)) v.2.2.2.2.2.2 false)]) (S.rforget fu r lo len rw rg nw ov) :=
  (S.rforget_k fu r lo len rw rg nw ov k).trans (arr_lift (S.rforget_l0_v fu r lo len rw rg nw ov (contOf (C_rforget fu r lo len rw rg nw ov) G61 (bodyOf Try.f63) [1, 0, 1, 0] (retK tis F63 Try.f63 (List.length ([.var [.int .i64 rw, .int .i64 rg, .slice 2 1 lo len none, .int .i64 nw, .bool ov], .rows (.pair (.int .i64) (.int .i64)) r false] : List Blk)) k)) fu (0) (0) ([])) ((fun z => S.rforget_a0_0_v fu r lo len rw rg nw ov (z.1) (z.2.1) (z.2.2.1) (z.2.2.2) k)))
noncomputable def C_rforget1 (fu : Nat) (rw rg nw : Int) (ov : Bool) : Cfg := Cfg.of tis F63 fu (List.length ([.var [.int .i64 rw, .int .i64 rg, .nils, .int .i64 nw, .bool ov]] : List Blk)) Try.f63.ntmps
noncomputable def S.rforget1_b0 : Code := codeAt (bodyOf Try.f63) [1, 0, 1, 0, 0]
noncomputable def S.rforget1_s0 (rw rg nw : Int) (ov : Bool)  : St := ⟨[(0, (.ptr 0 (0) 0)), (2, (.slice 2 1 (0) (0) none)), (3, (.int .i64 (0)))], [(.var [(.int .i64 (rw)), (.int .i64 (rg)), .nils, (.int .i64 (nw)), (.bool (ov))]), (.rows (Cd.pair (Cd.int .i64) (Cd.int .i64)) ([]) false)]⟩
noncomputable def S.rforget1_x0_0 (rw rg nw : Int) (ov : Bool)  : St := ⟨[(0, (.ptr 0 (0) 0)), (2, (.slice 2 1 (0) (0) none)), (3, (.int .i64 (0))), (10, (.bool (false)))], [(.var [(.int .i64 (rw)), (.int .i64 (rg)), .nils, (.int .i64 (nw)), (.bool (ov))]), (.rows (Cd.pair (Cd.int .i64) (Cd.int .i64)) ([]) false)]⟩
theorem S.rforget1_l0_k {R : Type} (fu : Nat) (rw rg nw : Int) (ov : Bool) (n : Nat) (K : Ex → St → Option R)  : loopRun (C_rforget1 fu rw rg nw ov) G61 S.rforget1_b0 (n + 1) (S.rforget1_s0 rw rg nw ov) K =
  (K (Ex.exit 0) (S.rforget1_x0_0 rw rg nw ov)) := by kernel_rfl
def S.rforget1_l0 (fu : Nat) (rw rg nw : Int) (ov : Bool) : Nat → Option ((Unit))
  | 0 => none
  | n + 1 =>
    some ()
theorem S.rforget1_l0_v {R : Type} (fu : Nat) (rw rg nw : Int) (ov : Bool) (K : Ex → St → Option R) : ∀ (n : Nat) , loopRun (C_rforget1 fu rw rg nw ov) G61 S.rforget1_b0 n (S.rforget1_s0 rw rg nw ov) K = oK (β := (Unit)) (fun z : Unit => K (Ex.exit 0) (S.rforget1_x0_0 rw rg nw ov)) (S.rforget1_l0 fu rw rg nw ov n)
  | 0 => rfl
  | n + 1 => (S.rforget1_l0_k fu rw rg nw ov n K).trans rfl
theorem S.rforget1_a0_0_k {R : Type} (fu : Nat) (rw rg nw : Int) (ov : Bool)  (k : AVal → List Blk → Option R) : contOf (C_rforget1 fu rw rg nw ov) G61 (bodyOf Try.f63) [1, 0, 1, 0] (retK tis F63 Try.f63 (List.length ([.var [.int .i64 rw, .int .i64 rg, .nils, .int .i64 nw, .bool ov]] : List Blk)) k) (Ex.exit 0) (S.rforget1_x0_0 rw rg nw ov) =
  (k (.tuple []) ([.var [.int .i64 rw, .int .i64 rg, .slice 2 1 0 0 Option.none, .int .i64 nw, .bool ov], .rows (Cd.pair (Cd.int .i64) (Cd.int .i64)) [] false])) := by kernel_rfl
def S.rforget1_a0_0 (fu : Nat) (rw rg nw : Int) (ov : Bool)  : Option (Int × Int × Int × Bool × List (Int × Int)) :=
  some (rw, rg, nw, ov, [])
theorem S.rforget1_a0_0_v {R : Type} (fu : Nat) (rw rg nw : Int) (ov : Bool)  (k : AVal → List Blk → Option R) : contOf (C_rforget1 fu rw rg nw ov) G61 (bodyOf Try.f63) [1, 0, 1, 0] (retK tis F63 Try.f63 (List.length ([.var [.int .i64 rw, .int .i64 rg, .nils, .int .i64 nw, .bool ov]] : List Blk)) k) (Ex.exit 0) (S.rforget1_x0_0 rw rg nw ov) = oK (fun v : Int × Int × Int × Bool × List (Int × Int) => k (.tuple []) [(.var [(.int .i64 v.1), (.int .i64 v.2.1), (.slice 2 1 0 0 none), (.int .i64 v.2.2.1), (.bool v.2.2.2.1)]), (.rows (Cd.pair (Cd.int .i64) (Cd.int .i64)) v.2.2.2.2 false)]) (S.rforget1_a0_0 fu rw rg nw ov) :=
  (S.rforget1_a0_0_k fu rw rg nw ov k).trans rfl
theorem S.rforget1_k {R : Type} (fu : Nat) (rw rg nw : Int) (ov : Bool) (k : AVal → List Blk → Option R) : fnEval tis F63 fu G61 Try.f63 [.ptr 0 0 0] [.var [.int .i64 rw, .int .i64 rg, .nils, .int .i64 nw, .bool ov]] k =
  (loopRun (C_rforget1 fu rw rg nw ov) G61 S.rforget1_b0 fu (S.rforget1_s0 rw rg nw ov) (contOf (C_rforget1 fu rw rg nw ov) G61 (bodyOf Try.f63) [1, 0, 1, 0] (retK tis F63 Try.f63 (List.length ([.var [.int .i64 rw, .int .i64 rg, .nils, .int .i64 nw, .bool ov]] : List Blk)) k))) := by kernel_rfl
def S.rforget1 (fu : Nat) (rw rg nw : Int) (ov : Bool) : Option (Int × Int × Int × Bool × List (Int × Int)) :=
  optK (S.rforget1_l0 fu rw rg nw ov fu) (fun z : Unit => S.rforget1_a0_0 fu rw rg nw ov)
theorem S.rforget1_v {R : Type} (fu : Nat) (rw rg nw : Int) (ov : Bool) (k : AVal → List Blk → Option R) : fnEval tis F63 fu G61 Try.f63 [.ptr 0 0 0] [.var [.int .i64 rw, .int .i64 rg, .nils, .int .i64 nw, .bool ov]] k = oK (fun v : Int × Int × Int × Bool × List (Int × Int) => k (.tuple []) [(.var [(.int .i64 v.1), (.int .i64 v.2.1), (.slice 2 1 0 0 none), (.int .i64 v.2.2.1), (.bool v.2.2.2.1)]), (.rows (Cd.pair (Cd.int .i64) (Cd.int .i64)) v.2.2.2.2 false)]) (S.rforget1 fu rw rg nw ov) :=
  (S.rforget1_k fu rw rg nw ov k).trans (arr_lift (S.rforget1_l0_v fu rw rg nw ov (contOf (C_rforget1 fu rw rg nw ov) G61 (bodyOf Try.f63) [1, 0, 1, 0] (retK tis F63 Try.f63 (List.length ([.var [.int .i64 rw, .int .i64 rg, .nils, .int .i64 nw, .bool ov]] : List Blk)) k)) fu) ((fun z => S.rforget1_a0_0_v fu rw rg nw ov k)))
def H63 : Hnd := fun R args σ k => match args, σ with
  | [.ptr 0 0 0], [.var [.int .i64 rw, .int .i64 rg, .slice 2 1 lo len none, .int .i64 nw, .bool ov], .rows (.pair (.int .i64) (.int .i64)) r false] => oK (fun v : Int × Int × Nat × Int × Bool × RL × List (Int × Int) => k (.tuple []) [(.var [(.int .i64 v.1), (.int .i64 v.2.1), (.slice 2 2 0 v.2.2.1 none), (.int .i64 v.2.2.2.1), (.bool v.2.2.2.2.1)]), (.rows (Cd.pair (Cd.int .i64) (Cd.int .i64)) v.2.2.2.2.2.1 false), (.rows (Cd.pair (Cd.int .i64) (Cd.int .i64)) v.2.2.2.2.2.2 false)]) (S.rforget 100000 r lo len rw rg nw ov)
  | [.ptr 0 0 0], [.var [.int .i64 rw, .int .i64 rg, .nils, .int .i64 nw, .bool ov]] => oK (fun v : Int × Int × Int × Bool × List (Int × Int) => k (.tuple []) [(.var [(.int .i64 v.1), (.int .i64 v.2.1), (.slice 2 1 0 0 none), (.int .i64 v.2.2.1), (.bool v.2.2.2.1)]), (.rows (Cd.pair (Cd.int .i64) (Cd.int .i64)) v.2.2.2.2 false)]) (S.rforget1 100000 rw rg nw ov)
  | _, _ => none
theorem H63_ok : HndOk Try.prog 63 H63 := hnd_ok tis tisOk mixOk G61_ok F63 Try.func63 rfl (by
  intro R args σ k r h
  unfold H63 at h
  split at h
  · rename_i rw rg lo len nw ov r; exact ⟨100000, (S.rforget_v 100000 r lo len rw rg nw ov _).trans h⟩
  · rename_i rw rg nw ov; exact ⟨100000, (S.rforget1_v 100000 rw rg nw ov _).trans h⟩
  · cases h)
def G63 : Env := Env.add 63 H63 G61
theorem G63_ok : EnvOk Try.prog G63 := envAdd_ok H63_ok G61_ok

/-! (*spinnakerref5.Ring).Put -/
def F49 : FCfg := ⟨keepAt [(0, [0, 1, 2]), (1, [0, 1, 2, 16]), (2, [6]), (3, [0, 1, 2, 27]), (4, [6]), (5, [0, 1, 2]), (6, [0]), (7, []), (8, [6])], loopAt [], []⟩
theorem S.rput_k {R : Type} (r : RL) (lo len : Nat) (rw rg nw : Int) (ov : Bool) (t v : Int) (k : AVal → List Blk → Option R) : fnEval tis F49 0 G63 Try.f49 [.ptr 0 0 0, .int .i64 t, .int .i64 v] [.var [.int .i64 rw, .int .i64 rg, .slice 2 1 lo len none, .int .i64 nw, .bool ov], .rows (.pair (.int .i64) (.int .i64)) r false] k =
  (bif decide (t < 0) then
    k (.int .i64 1) ([.var [.int .i64 rw, .int .i64 rg, .slice 2 1 lo len Option.none, .int .i64 nw, .bool ov], .rows (Cd.pair (Cd.int .i64) (Cd.int .i64)) r false])
  else
    bif decide (1099511627776 < t) then
      k (.int .i64 1) ([.var [.int .i64 rw, .int .i64 rg, .slice 2 1 lo len Option.none, .int .i64 nw, .bool ov], .rows (Cd.pair (Cd.int .i64) (Cd.int .i64)) r false])
    else
      bif decide (v < 0) then
        k (.int .i64 1) ([.var [.int .i64 rw, .int .i64 rg, .slice 2 1 lo len Option.none, .int .i64 nw, .bool ov], .rows (Cd.pair (Cd.int .i64) (Cd.int .i64)) r false])
      else
        (optK (S.rbucket r lo len rw rg nw ov t) fun o5 =>
          (optK (S.rN r lo len rw rg nw ov) fun o6 =>
            bif decide (o6 ≤ Go.IntKind.wrap .i64 (nw - o5)) then
              k (.int .i64 0) ([.var [.int .i64 rw, .int .i64 rg, .slice 2 1 lo len Option.none, .int .i64 nw, .bool ov], .rows (Cd.pair (Cd.int .i64) (Cd.int .i64)) r false])
            else
              (optK (S.rbucket r lo len rw rg nw ov t) fun o8 =>
                bif Nat.beq 2 2 && Nat.blt 0 16 && Nat.beq 2 2 && Nat.beq 2 2 && Nat.beq 2 2 && Nat.blt 0 1 && !Nat.beq 1 2 && Nat.ble ((len + 1) * 16) 35184372088832 then
                  (optK (S.rforget 100000 (cutL r lo len ++ cutL [(t, v)] 0 1) 0 (List.length (cutL r lo len ++ cutL [(t, v)] 0 1)) rw rg (if o8 > nw then o8 else nw) ov) fun o10 =>
                    k (.int .i64 0) ([.var [.int .i64 (Prod.fst o10), .int .i64 (Prod.fst (Prod.snd o10)), .slice 2 2 0 (Prod.fst (Prod.snd (Prod.snd o10))) Option.none, .int .i64 (Prod.fst (Prod.snd (Prod.snd (Prod.snd o10)))), .bool (Prod.fst (Prod.snd (Prod.snd (Prod.snd (Prod.snd o10)))))], .dead, .rows (Cd.pair (Cd.int .i64) (Cd.int .i64)) (Prod.snd (Prod.snd (Prod.snd (Prod.snd (Prod.snd (Prod.snd o10)))))) false]))
                else
                  none)))) := by kernel_rfl
def S.rput (r : RL) (lo len : Nat) (rw rg nw : Int) (ov : Bool) (t v : Int) : Option ((Int × Int × Int × Nat × Nat × Int × Bool × RL) ⊕ (Int × Int × Nat × Int × Bool × List (Int × Int))) :=
  bif decide (t < 0) then
    some (.inl (1, rw, rg, lo, len, nw, ov, r))
  else
    bif decide (1099511627776 < t) then
      some (.inl (1, rw, rg, lo, len, nw, ov, r))
    else
      bif decide (v < 0) then
        some (.inl (1, rw, rg, lo, len, nw, ov, r))
      else
        (optK (S.rbucket r lo len rw rg nw ov t) fun o5 =>
          (optK (S.rN r lo len rw rg nw ov) fun o6 =>
            bif decide (o6 ≤ Go.IntKind.wrap .i64 (nw - o5)) then
              some (.inl (0, rw, rg, lo, len, nw, ov, r))
            else
              (optK (S.rbucket r lo len rw rg nw ov t) fun o8 =>
                bif Nat.beq 2 2 && Nat.blt 0 16 && Nat.beq 2 2 && Nat.beq 2 2 && Nat.beq 2 2 && Nat.blt 0 1 && !Nat.beq 1 2 && Nat.ble ((len + 1) * 16) 35184372088832 then
                  (optK (S.rforget 100000 (cutL r lo len ++ cutL [(t, v)] 0 1) 0 (List.length (cutL r lo len ++ cutL [(t, v)] 0 1)) rw rg (if o8 > nw then o8 else nw) ov) fun o10 =>
                    some (.inr (Prod.fst o10, Prod.fst (Prod.snd o10), Prod.fst (Prod.snd (Prod.snd o10)), Prod.fst (Prod.snd (Prod.snd (Prod.snd o10))), Prod.fst (Prod.snd (Prod.snd (Prod.snd (Prod.snd o10)))), Prod.snd (Prod.snd (Prod.snd (Prod.snd (Prod.snd (Prod.snd o10))))))))
                else
                  none)))
theorem S.rput_v {R : Type} (r : RL) (lo len : Nat) (rw rg nw : Int) (ov : Bool) (t v : Int) (k : AVal → List Blk → Option R) : fnEval tis F49 0 G63 Try.f49 [.ptr 0 0 0, .int .i64 t, .int .i64 v] [.var [.int .i64 rw, .int .i64 rg, .slice 2 1 lo len none, .int .i64 nw, .bool ov], .rows (.pair (.int .i64) (.int .i64)) r false] k = oK (Sum.elim (fun v : Int × Int × Int × Nat × Nat × Int × Bool × RL => k (.int .i64 v.1) [(.var [(.int .i64 v.2.1), (.int .i64 v.2.2.1), (.slice 2 1 v.2.2.2.1 v.2.2.2.2.1 none), (.int .i64 v.2.2.2.2.2.1), (.bool v.2.2.2.2.2.2.1)]), (.rows (Cd.pair (Cd.int .i64) (Cd.int .i64)) v.2.2.2.2.2.2.2 false)]) (fun v : Int × Int × Nat × Int × Bool × List (Int × Int) => k (.int .i64 (0)) [(.var [(.int .i64 v.1), (.int .i64 v.2.1), (.slice 2 2 0 v.2.2.1 none), (.int .i64 v.2.2.2.1), (.bool v.2.2.2.2.1)]), .dead, (.rows (Cd.pair (Cd.int .i64) (Cd.int .i64)) v.2.2.2.2.2 false)])) (S.rput r lo len rw rg nw ov t v) :=
  (S.rput_k r lo len rw rg nw ov t v k).trans (bif_lift (f := (oK (Sum.elim (fun v : Int × Int × Int × Nat × Nat × Int × Bool × RL => k (.int .i64 v.1) [(.var [(.int .i64 v.2.1), (.int .i64 v.2.2.1), (.slice 2 1 v.2.2.2.1 v.2.2.2.2.1 none), (.int .i64 v.2.2.2.2.2.1), (.bool v.2.2.2.2.2.2.1)]), (.rows (Cd.pair (Cd.int .i64) (Cd.int .i64)) v.2.2.2.2.2.2.2 false)]) (fun v : Int × Int × Nat × Int × Bool × List (Int × Int) => k (.int .i64 (0)) [(.var [(.int .i64 v.1), (.int .i64 v.2.1), (.slice 2 2 0 v.2.2.1 none), (.int .i64 v.2.2.2.1), (.bool v.2.2.2.2.1)]), .dead, (.rows (Cd.pair (Cd.int .i64) (Cd.int .i64)) v.2.2.2.2.2 false)])))) rfl (bif_lift (f := (oK (Sum.elim (fun v : Int × Int × Int × Nat × Nat × Int × Bool × RL => k (.int .i64 v.1) [(.var [(.int .i64 v.2.1), (.int .i64 v.2.2.1), (.slice 2 1 v.2.2.2.1 v.2.2.2.2.1 none), (.int .i64 v.2.2.2.2.2.1), (.bool v.2.2.2.2.2.2.1)]), (.rows (Cd.pair (Cd.int .i64) (Cd.int .i64)) v.2.2.2.2.2.2.2 false)]) (fun v : Int × Int × Nat × Int × Bool × List (Int × Int) => k (.int .i64 (0)) [(.var [(.int .i64 v.1), (.int .i64 v.2.1), (.slice 2 2 0 v.2.2.1 none), (.int .i64 v.2.2.2.1), (.bool v.2.2.2.2.1)]), .dead, (.rows (Cd.pair (Cd.int .i64) (Cd.int .i64)) v.2.2.2.2.2 false)])))) rfl (bif_lift (f := (oK (Sum.elim (fun v : Int × Int × Int × Nat × Nat × Int × Bool × RL => k (.int .i64 v.1) [(.var [(.int .i64 v.2.1), (.int .i64 v.2.2.1), (.slice 2 1 v.2.2.2.1 v.2.2.2.2.1 none), (.int .i64 v.2.2.2.2.2.1), (.bool v.2.2.2.2.2.2.1)]), (.rows (Cd.pair (Cd.int .i64) (Cd.int .i64)) v.2.2.2.2.2.2.2 false)]) (fun v : Int × Int × Nat × Int × Bool × List (Int × Int) => k (.int .i64 (0)) [(.var [(.int .i64 v.1), (.int .i64 v.2.1), (.slice 2 2 0 v.2.2.1 none), (.int .i64 v.2.2.2.1), (.bool v.2.2.2.2.1)]), .dead, (.rows (Cd.pair (Cd.int .i64) (Cd.int .i64)) v.2.2.2.2.2 false)])))) rfl (opt_lift fun o5 => (opt_lift fun o6 => (bif_lift (f := (oK (Sum.elim (fun v : Int × Int × Int × Nat × Nat × Int × Bool × RL => k (.int .i64 v.1) [(.var [(.int .i64 v.2.1), (.int .i64 v.2.2.1), (.slice 2 1 v.2.2.2.1 v.2.2.2.2.1 none), (.int .i64 v.2.2.2.2.2.1), (.bool v.2.2.2.2.2.2.1)]), (.rows (Cd.pair (Cd.int .i64) (Cd.int .i64)) v.2.2.2.2.2.2.2 false)]) (fun v : Int × Int × Nat × Int × Bool × List (Int × Int) => k (.int .i64 (0)) [(.var [(.int .i64 v.1), (.int .i64 v.2.1), (.slice 2 2 0 v.2.2.1 none), (.int .i64 v.2.2.2.1), (.bool v.2.2.2.2.1)]), .dead, (.rows (Cd.pair (Cd.int .i64) (Cd.int .i64)) v.2.2.2.2.2 false)])))) rfl (opt_lift fun o8 => (bif_lift (f := (oK (Sum.elim (fun v : Int × Int × Int × Nat × Nat × Int × Bool × RL => k (.int .i64 v.1) [(.var [(.int .i64 v.2.1), (.int .i64 v.2.2.1), (.slice 2 1 v.2.2.2.1 v.2.2.2.2.1 none), (.int .i64 v.2.2.2.2.2.1), (.bool v.2.2.2.2.2.2.1)]), (.rows (Cd.pair (Cd.int .i64) (Cd.int .i64)) v.2.2.2.2.2.2.2 false)]) (fun v : Int × Int × Nat × Int × Bool × List (Int × Int) => k (.int .i64 (0)) [(.var [(.int .i64 v.1), (.int .i64 v.2.1), (.slice 2 2 0 v.2.2.1 none), (.int .i64 v.2.2.2.1), (.bool v.2.2.2.2.1)]), .dead, (.rows (Cd.pair (Cd.int .i64) (Cd.int .i64)) v.2.2.2.2.2 false)])))) (opt_lift fun o10 => rfl) rfl))))))))
theorem S.rput1_k {R : Type} (rw rg nw : Int) (ov : Bool) (t v : Int) (k : AVal → List Blk → Option R) : fnEval tis F49 0 G63 Try.f49 [.ptr 0 0 0, .int .i64 t, .int .i64 v] [.var [.int .i64 rw, .int .i64 rg, .nils, .int .i64 nw, .bool ov]] k =
  (bif decide (t < 0) then
    k (.int .i64 1) ([.var [.int .i64 rw, .int .i64 rg, .nils, .int .i64 nw, .bool ov]])
  else
    bif decide (1099511627776 < t) then
      k (.int .i64 1) ([.var [.int .i64 rw, .int .i64 rg, .nils, .int .i64 nw, .bool ov]])
    else
      bif decide (v < 0) then
        k (.int .i64 1) ([.var [.int .i64 rw, .int .i64 rg, .nils, .int .i64 nw, .bool ov]])
      else
        (optK (S.rbucket1 rw rg nw ov t) fun o5 =>
          (optK (S.rN1 rw rg nw ov) fun o6 =>
            bif decide (o6 ≤ Go.IntKind.wrap .i64 (nw - o5)) then
              k (.int .i64 0) ([.var [.int .i64 rw, .int .i64 rg, .nils, .int .i64 nw, .bool ov]])
            else
              (optK (S.rbucket1 rw rg nw ov t) fun o8 =>
                (optK (S.rforget 100000 ([] ++ cutL [(t, v)] 0 1) 0 1 rw rg (if o8 > nw then o8 else nw) ov) fun o9 =>
                  k (.int .i64 0) ([.var [.int .i64 (Prod.fst o9), .int .i64 (Prod.fst (Prod.snd o9)), .slice 2 1 0 (Prod.fst (Prod.snd (Prod.snd o9))) Option.none, .int .i64 (Prod.fst (Prod.snd (Prod.snd (Prod.snd o9)))), .bool (Prod.fst (Prod.snd (Prod.snd (Prod.snd (Prod.snd o9)))))], .rows (Cd.pair (Cd.int .i64) (Cd.int .i64)) (Prod.snd (Prod.snd (Prod.snd (Prod.snd (Prod.snd (Prod.snd o9)))))) false])))))) := by kernel_rfl
def S.rput1 (rw rg nw : Int) (ov : Bool) (t v : Int) : Option ((Int × Int × Int × Int × Bool) ⊕ (Int × Int × Nat × Int × Bool × List (Int × Int))) :=
  bif decide (t < 0) then
    some (.inl (1, rw, rg, nw, ov))
  else
    bif decide (1099511627776 < t) then
      some (.inl (1, rw, rg, nw, ov))
    else
      bif decide (v < 0) then
        some (.inl (1, rw, rg, nw, ov))
      else
        (optK (S.rbucket1 rw rg nw ov t) fun o5 =>
          (optK (S.rN1 rw rg nw ov) fun o6 =>
            bif decide (o6 ≤ Go.IntKind.wrap .i64 (nw - o5)) then
              some (.inl (0, rw, rg, nw, ov))
            else
              (optK (S.rbucket1 rw rg nw ov t) fun o8 =>
                (optK (S.rforget 100000 ([] ++ cutL [(t, v)] 0 1) 0 1 rw rg (if o8 > nw then o8 else nw) ov) fun o9 =>
                  some (.inr (Prod.fst o9, Prod.fst (Prod.snd o9), Prod.fst (Prod.snd (Prod.snd o9)), Prod.fst (Prod.snd (Prod.snd (Prod.snd o9))), Prod.fst (Prod.snd (Prod.snd (Prod.snd (Prod.snd o9)))), Prod.snd (Prod.snd (Prod.snd (Prod.snd (Prod.snd (Prod.snd o9)))))))))))
theorem S.rput1_v {R : Type} (rw rg nw : Int) (ov : Bool) (t v : Int) (k : AVal → List Blk → Option R) : fnEval tis F49 0 G63 Try.f49 [.ptr 0 0 0, .int .i64 t, .int .i64 v] [.var [.int .i64 rw, .int .i64 rg, .nils, .int .i64 nw, .bool ov]] k = oK (Sum.elim (fun v : Int × Int × Int × Int × Bool => k (.int .i64 v.1) [(.var [(.int .i64 v.2.1), (.int .i64 v.2.2.1), .nils, (.int .i64 v.2.2.2.1), (.bool v.2.2.2.2)])]) (fun v : Int × Int × Nat × Int × Bool × List (Int × Int) => k (.int .i64 (0)) [(.var [(.int .i64 v.1), (.int .i64 v.2.1), (.slice 2 1 0 v.2.2.1 none), (.int .i64 v.2.2.2.1), (.bool v.2.2.2.2.1)]), (.rows (Cd.pair (Cd.int .i64) (Cd.int .i64)) v.2.2.2.2.2 false)])) (S.rput1 rw rg nw ov t v) :=
  (S.rput1_k rw rg nw ov t v k).trans (bif_lift (f := (oK (Sum.elim (fun v : Int × Int × Int × Int × Bool => k (.int .i64 v.1) [(.var [(.int .i64 v.2.1), (.int .i64 v.2.2.1), .nils, (.int .i64 v.2.2.2.1), (.bool v.2.2.2.2)])]) (fun v : Int × Int × Nat × Int × Bool × List (Int × Int) => k (.int .i64 (0)) [(.var [(.int .i64 v.1), (.int .i64 v.2.1), (.slice 2 1 0 v.2.2.1 none), (.int .i64 v.2.2.2.1), (.bool v.2.2.2.2.1)]), (.rows (Cd.pair (Cd.int .i64) (Cd.int .i64)) v.2.2.2.2.2 false)])))) rfl (bif_lift (f := (oK (Sum.elim (fun v : Int × Int × Int × Int × Bool => k (.int .i64 v.1) [(.var [(.int .i64 v.2.1), (.int .i64 v.2.2.1), .nils, (.int .i64 v.2.2.2.1), (.bool v.2.2.2.2)])]) (fun v : Int × Int × Nat × Int × Bool × List (Int × Int) => k (.int .i64 (0)) [(.var [(.int .i64 v.1), (.int .i64 v.2.1), (.slice 2 1 0 v.2.2.1 none), (.int .i64 v.2.2.2.1), (.bool v.2.2.2.2.1)]), (.rows (Cd.pair (Cd.int .i64) (Cd.int .i64)) v.2.2.2.2.2 false)])))) rfl (bif_lift (f := (oK (Sum.elim (fun v : Int × Int × Int × Int × Bool => k (.int .i64 v.1) [(.var [(.int .i64 v.2.1), (.int .i64 v.2.2.1), .nils, (.int .i64 v.2.2.2.1), (.bool v.2.2.2.2)])]) (fun v : Int × Int × Nat × Int × Bool × List (Int × Int) => k (.int .i64 (0)) [(.var [(.int .i64 v.1), (.int .i64 v.2.1), (.slice 2 1 0 v.2.2.1 none), (.int .i64 v.2.2.2.1), (.bool v.2.2.2.2.1)]), (.rows (Cd.pair (Cd.int .i64) (Cd.int .i64)) v.2.2.2.2.2 false)])))) rfl (opt_lift fun o5 => (opt_lift fun o6 => (bif_lift (f := (oK (Sum.elim (fun v : Int × Int × Int × Int × Bool => k (.int .i64 v.1) [(.var [(.int .i64 v.2.1), (.int .i64 v.2.2.1), .nils, (.int .i64 v.2.2.2.1), (.bool v.2.2.2.2)])]) (fun v : Int × Int × Nat × Int × Bool × List (Int × Int) => k (.int .i64 (0)) [(.var [(.int .i64 v.1), (.int .i64 v.2.1), (.slice 2 1 0 v.2.2.1 none), (.int .i64 v.2.2.2.1), (.bool v.2.2.2.2.1)]), (.rows (Cd.pair (Cd.int .i64) (Cd.int .i64)) v.2.2.2.2.2 false)])))) rfl (opt_lift fun o8 => (opt_lift fun o9 => rfl))))))))
def H49 : Hnd := fun R args σ k => match args, σ with
  | [.ptr 0 0 0, .int .i64 t, .int .i64 v], [.var [.int .i64 rw, .int .i64 rg, .slice 2 1 lo len none, .int .i64 nw, .bool ov], .rows (.pair (.int .i64) (.int .i64)) r false] => oK (Sum.elim (fun v : Int × Int × Int × Nat × Nat × Int × Bool × RL => k (.int .i64 v.1) [(.var [(.int .i64 v.2.1), (.int .i64 v.2.2.1), (.slice 2 1 v.2.2.2.1 v.2.2.2.2.1 none), (.int .i64 v.2.2.2.2.2.1), (.bool v.2.2.2.2.2.2.1)]), (.rows (Cd.pair (Cd.int .i64) (Cd.int .i64)) v.2.2.2.2.2.2.2 false)]) (fun v : Int × Int × Nat × Int × Bool × List (Int × Int) => k (.int .i64 (0)) [(.var [(.int .i64 v.1), (.int .i64 v.2.1), (.slice 2 2 0 v.2.2.1 none), (.int .i64 v.2.2.2.1), (.bool v.2.2.2.2.1)]), .dead, (.rows (Cd.pair (Cd.int .i64) (Cd.int .i64)) v.2.2.2.2.2 false)])) (S.rput r lo len rw rg nw ov t v)
  | [.ptr 0 0 0, .int .i64 t, .int .i64 v], [.var [.int .i64 rw, .int .i64 rg, .nils, .int .i64 nw, .bool ov]] => oK (Sum.elim (fun v : Int × Int × Int × Int × Bool => k (.int .i64 v.1) [(.var [(.int .i64 v.2.1), (.int .i64 v.2.2.1), .nils, (.int .i64 v.2.2.2.1), (.bool v.2.2.2.2)])]) (fun v : Int × Int × Nat × Int × Bool × List (Int × Int) => k (.int .i64 (0)) [(.var [(.int .i64 v.1), (.int .i64 v.2.1), (.slice 2 1 0 v.2.2.1 none), (.int .i64 v.2.2.2.1), (.bool v.2.2.2.2.1)]), (.rows (Cd.pair (Cd.int .i64) (Cd.int .i64)) v.2.2.2.2.2 false)])) (S.rput1 rw rg nw ov t v)
  | _, _ => none
theorem H49_ok : HndOk Try.prog 49 H49 := hnd_ok tis tisOk mixOk G63_ok F49 Try.func49 rfl (by
  intro R args σ k r h
  unfold H49 at h
  split at h
  · rename_i t v rw rg lo len nw ov r; exact ⟨0, (S.rput_v r lo len rw rg nw ov t v _).trans h⟩
  · rename_i t v rw rg nw ov; exact ⟨0, (S.rput1_v rw rg nw ov t v _).trans h⟩
  · cases h)
def G49 : Env := Env.add 49 H49 G63
theorem G49_ok : EnvOk Try.prog G49 := envAdd_ok H49_ok G63_ok

/-! (*spinnakerref5.Ring).Sum -/
def F50 : FCfg := ⟨keepAt [(0, [0, 1]), (1, [0, 1, 6, 7]), (2, [0, 1, 6, 7, 8]), (3, [0, 1, 6, 7, 8, 22]), (4, [0, 1, 6, 7, 8]), (5, [0, 1, 6, 7, 8, 9]), (6, [0, 1, 6, 7, 8, 46]), (7, [0, 1, 7, 8, 10, 11]), (8, [0, 1, 7, 8, 10]), (9, [0, 1, 6, 7, 8]), (10, [4, 5])], loopAt [(3, [0, 1, 6, 7, 8], [])], []⟩
noncomputable def C_rsum (fu : Nat) (r : RL) (lo len : Nat) (rw rg nw : Int) (ov : Bool) (t : Int) : Cfg := Cfg.of tis F50 fu (List.length ([.var [.int .i64 rw, .int .i64 rg, .slice 2 1 lo len none, .int .i64 nw, .bool ov], .rows (.pair (.int .i64) (.int .i64)) r false] : List Blk)) Try.f50.ntmps
noncomputable def S.rsum_b0 : Code := codeAt (bodyOf Try.f50) [1, 1, 0, 1, 0, 0]
noncomputable def S.rsum_s0 (r : RL) (lo len : Nat) (rw rg nw : Int) (ov : Bool) (t : Int) (y0 : Int) (y1 : Int) (y2 : Int) (y3 : Bool) : St := ⟨[(0, (.ptr 0 (0) 0)), (1, (.int .i64 (t))), (6, (.int .i64 (y0))), (7, (.int .i64 (y1))), (8, (.int .i64 (y2)))], [(.var [(.int .i64 (rw)), (.int .i64 (rg)), (.slice 2 1 (lo) (len) none), (.int .i64 (nw)), (.bool (y3))]), (.rows (Cd.pair (Cd.int .i64) (Cd.int .i64)) (r) false)]⟩
noncomputable def S.rsum_x0_0 (r : RL) (lo len : Nat) (rw rg nw : Int) (ov : Bool) (t : Int) (z0 : Int) (z1 : Int) (z2 : Int) (z3 : Bool) (z4 : Bool) : St := ⟨[(0, (.ptr 0 (0) 0)), (1, (.int .i64 (t))), (6, (.int .i64 (z0))), (7, (.int .i64 (z1))), (8, (.int .i64 (z2))), (22, (.bool (z3)))], [(.var [(.int .i64 (rw)), (.int .i64 (rg)), (.slice 2 1 (lo) (len) none), (.int .i64 (nw)), (.bool (z4))]), (.rows (Cd.pair (Cd.int .i64) (Cd.int .i64)) (r) false)]⟩
theorem S.rsum_l0_k {R : Type} (fu : Nat) (r : RL) (lo len : Nat) (rw rg nw : Int) (ov : Bool) (t : Int) (n : Nat) (K : Ex → St → Option R) (y0 : Int) (y1 : Int) (y2 : Int) (y3 : Bool) : loopRun (C_rsum fu r lo len rw rg nw ov t) G49 S.rsum_b0 (n + 1) (S.rsum_s0 r lo len rw rg nw ov t (y0) (y1) (y2) (y3)) K =
  (bif decide (y2 < ((len : Nat) : Int)) then
    bif decide (0 ≤ t) then
      (optK (S.rbucket r lo len rw rg nw y3 t) fun o4 =>
        bif inB y2 len then
          (optK (r[Int.toNat y2 + lo]?) fun o6 =>
            (optK (S.rbucket r lo len rw rg nw y3 (Prod.fst o6)) fun o7 =>
              bif decide (Go.IntKind.wrap .i64 (o4 - o7) < 0) then
                loopRun (C_rsum fu r lo len rw rg nw ov t) G49 S.rsum_b0 n (S.rsum_s0 r lo len rw rg nw ov t (y0) (y1) (Go.IntKind.wrap .i64 (y2 + 1)) (y3)) K
              else
                (optK (S.rN r lo len rw rg nw y3) fun o9 =>
                  bif decide (o9 ≤ Go.IntKind.wrap .i64 (o4 - o7)) then
                    loopRun (C_rsum fu r lo len rw rg nw ov t) G49 S.rsum_b0 n (S.rsum_s0 r lo len rw rg nw ov t (y0) (y1) (Go.IntKind.wrap .i64 (y2 + 1)) (y3)) K
                  else
                    bif inB y2 len then
                      (optK (r[Int.toNat y2 + lo]?) fun o12 =>
                        bif y3 then
                          loopRun (C_rsum fu r lo len rw rg nw ov t) G49 S.rsum_b0 n (S.rsum_s0 r lo len rw rg nw ov t (Prod.fst (S.radd y0 (Prod.snd o12))) (Go.IntKind.wrap .i64 (y1 + 1)) (Go.IntKind.wrap .i64 (y2 + 1)) (true)) K
                        else
                          loopRun (C_rsum fu r lo len rw rg nw ov t) G49 S.rsum_b0 n (S.rsum_s0 r lo len rw rg nw ov t (Prod.fst (S.radd y0 (Prod.snd o12))) (Go.IntKind.wrap .i64 (y1 + 1)) (Go.IntKind.wrap .i64 (y2 + 1)) (!decide (Prod.snd (S.radd y0 (Prod.snd o12)) = 0))) K)
                    else
                      none)))
        else
          none)
    else
      K (Ex.exit 0) (S.rsum_x0_0 r lo len rw rg nw ov t (y0) (y1) (y2) (decide (0 ≤ t)) (y3))
  else
    K (Ex.exit 0) (S.rsum_x0_0 r lo len rw rg nw ov t (y0) (y1) (y2) (false) (y3))) := by kernel_rfl
def S.rsum_l0 (fu : Nat) (r : RL) (lo len : Nat) (rw rg nw : Int) (ov : Bool) (t : Int) : Nat → (Int) → (Int) → (Int) → (Bool) → Option ((Int × Int × Int × Bool × Bool))
  | 0, _, _, _, _ => none
  | n + 1, y0, y1, y2, y3 =>
    bif decide (y2 < ((len : Nat) : Int)) then
      bif decide (0 ≤ t) then
        (optK (S.rbucket r lo len rw rg nw y3 t) fun o4 =>
          bif inB y2 len then
            (optK (r[Int.toNat y2 + lo]?) fun o6 =>
              (optK (S.rbucket r lo len rw rg nw y3 (Prod.fst o6)) fun o7 =>
                bif decide (Go.IntKind.wrap .i64 (o4 - o7) < 0) then
                  (S.rsum_l0 fu r lo len rw rg nw ov t n) (y0) (y1) (Go.IntKind.wrap .i64 (y2 + 1)) (y3)
                else
                  (optK (S.rN r lo len rw rg nw y3) fun o9 =>
                    bif decide (o9 ≤ Go.IntKind.wrap .i64 (o4 - o7)) then
                      (S.rsum_l0 fu r lo len rw rg nw ov t n) (y0) (y1) (Go.IntKind.wrap .i64 (y2 + 1)) (y3)
                    else
                      bif inB y2 len then
                        (optK (r[Int.toNat y2 + lo]?) fun o12 =>
                          bif y3 then
                            (S.rsum_l0 fu r lo len rw rg nw ov t n) (Prod.fst (S.radd y0 (Prod.snd o12))) (Go.IntKind.wrap .i64 (y1 + 1)) (Go.IntKind.wrap .i64 (y2 + 1)) (true)
                          else
                            (S.rsum_l0 fu r lo len rw rg nw ov t n) (Prod.fst (S.radd y0 (Prod.snd o12))) (Go.IntKind.wrap .i64 (y1 + 1)) (Go.IntKind.wrap .i64 (y2 + 1)) (!decide (Prod.snd (S.radd y0 (Prod.snd o12)) = 0)))
                      else
                        none)))
          else
            none)
      else
        some (y0, y1, y2, decide (0 ≤ t), y3)
    else
      some (y0, y1, y2, false, y3)
theorem S.rsum_l0_v {R : Type} (fu : Nat) (r : RL) (lo len : Nat) (rw rg nw : Int) (ov : Bool) (t : Int) (K : Ex → St → Option R) : ∀ (n : Nat) (y0 : Int) (y1 : Int) (y2 : Int) (y3 : Bool), loopRun (C_rsum fu r lo len rw rg nw ov t) G49 S.rsum_b0 n (S.rsum_s0 r lo len rw rg nw ov t (y0) (y1) (y2) (y3)) K = oK (β := (Int × Int × Int × Bool × Bool)) (fun z : Int × Int × Int × Bool × Bool => K (Ex.exit 0) (S.rsum_x0_0 r lo len rw rg nw ov t (z.1) (z.2.1) (z.2.2.1) (z.2.2.2.1) (z.2.2.2.2))) (S.rsum_l0 fu r lo len rw rg nw ov t n y0 y1 y2 y3)
  | 0, _, _, _, _ => rfl
  | n + 1, y0, y1, y2, y3 => (S.rsum_l0_k fu r lo len rw rg nw ov t n K y0 y1 y2 y3).trans (bif_lift (f := (oK (β := (Int × Int × Int × Bool × Bool)) (fun z : Int × Int × Int × Bool × Bool => K (Ex.exit 0) (S.rsum_x0_0 r lo len rw rg nw ov t (z.1) (z.2.1) (z.2.2.1) (z.2.2.2.1) (z.2.2.2.2))))) (bif_lift (f := (oK (β := (Int × Int × Int × Bool × Bool)) (fun z : Int × Int × Int × Bool × Bool => K (Ex.exit 0) (S.rsum_x0_0 r lo len rw rg nw ov t (z.1) (z.2.1) (z.2.2.1) (z.2.2.2.1) (z.2.2.2.2))))) (opt_lift fun o4 => (bif_lift (f := (oK (β := (Int × Int × Int × Bool × Bool)) (fun z : Int × Int × Int × Bool × Bool => K (Ex.exit 0) (S.rsum_x0_0 r lo len rw rg nw ov t (z.1) (z.2.1) (z.2.2.1) (z.2.2.2.1) (z.2.2.2.2))))) (opt_lift fun o6 => (opt_lift fun o7 => (bif_lift (f := (oK (β := (Int × Int × Int × Bool × Bool)) (fun z : Int × Int × Int × Bool × Bool => K (Ex.exit 0) (S.rsum_x0_0 r lo len rw rg nw ov t (z.1) (z.2.1) (z.2.2.1) (z.2.2.2.1) (z.2.2.2.2))))) (S.rsum_l0_v fu r lo len rw rg nw ov t K n (y0) (y1) (Go.IntKind.wrap .i64 (y2 + 1)) (y3)) (opt_lift fun o9 => (bif_lift (f := (oK (β := (Int × Int × Int × Bool × Bool)) (fun z : Int × Int × Int × Bool × Bool => K (Ex.exit 0) (S.rsum_x0_0 r lo len rw rg nw ov t (z.1) (z.2.1) (z.2.2.1) (z.2.2.2.1) (z.2.2.2.2))))) (S.rsum_l0_v fu r lo len rw rg nw ov t K n (y0) (y1) (Go.IntKind.wrap .i64 (y2 + 1)) (y3)) (bif_lift (f := (oK (β := (Int × Int × Int × Bool × Bool)) (fun z : Int × Int × Int × Bool × Bool => K (Ex.exit 0) (S.rsum_x0_0 r lo len rw rg nw ov t (z.1) (z.2.1) (z.2.2.1) (z.2.2.2.1) (z.2.2.2.2))))) (opt_lift fun o12 => (bif_lift (f := (oK (β := (Int × Int × Int × Bool × Bool)) (fun z : Int × Int × Int × Bool × Bool => K (Ex.exit 0) (S.rsum_x0_0 r lo len rw rg nw ov t (z.1) (z.2.1) (z.2.2.1) (z.2.2.2.1) (z.2.2.2.2))))) (S.rsum_l0_v fu r lo len rw rg nw ov t K n (Prod.fst (S.radd y0 (Prod.snd o12))) (Go.IntKind.wrap .i64 (y1 + 1)) (Go.IntKind.wrap .i64 (y2 + 1)) (true)) (S.rsum_l0_v fu r lo len rw rg nw ov t K n (Prod.fst (S.radd y0 (Prod.snd o12))) (Go.IntKind.wrap .i64 (y1 + 1)) (Go.IntKind.wrap .i64 (y2 + 1)) (!decide (Prod.snd (S.radd y0 (Prod.snd o12)) = 0))))) rfl)))))) rfl)) rfl) rfl)
theorem S.rsum_a0_0_k {R : Type} (fu : Nat) (r : RL) (lo len : Nat) (rw rg nw : Int) (ov : Bool) (t : Int) (z0 : Int) (z1 : Int) (z2 : Int) (z3 : Bool) (z4 : Bool) (k : AVal → List Blk → Option R) : contOf (C_rsum fu r lo len rw rg nw ov t) G49 (bodyOf Try.f50) [1, 1, 0, 1, 0] (retK tis F50 Try.f50 (List.length ([.var [.int .i64 rw, .int .i64 rg, .slice 2 1 lo len none, .int .i64 nw, .bool ov], .rows (.pair (.int .i64) (.int .i64)) r false] : List Blk)) k) (Ex.exit 0) (S.rsum_x0_0 r lo len rw rg nw ov t (z0) (z1) (z2) (z3) (z4)) =
  (k (.tuple [.int .i64 z0, .int .i64 z1]) ([.var [.int .i64 rw, .int .i64 rg, .slice 2 1 lo len Option.none, .int .i64 nw, .bool z4], .rows (Cd.pair (Cd.int .i64) (Cd.int .i64)) r false])) := by kernel_rfl
def S.rsum_a0_0 (fu : Nat) (r : RL) (lo len : Nat) (rw rg nw : Int) (ov : Bool) (t : Int) (z0 : Int) (z1 : Int) (z2 : Int) (z3 : Bool) (z4 : Bool) : Option (Int × Int × Int × Int × Nat × Nat × Int × Bool × RL) :=
  some (z0, z1, rw, rg, lo, len, nw, z4, r)
theorem S.rsum_a0_0_v {R : Type} (fu : Nat) (r : RL) (lo len : Nat) (rw rg nw : Int) (ov : Bool) (t : Int) (z0 : Int) (z1 : Int) (z2 : Int) (z3 : Bool) (z4 : Bool) (k : AVal → List Blk → Option R) : contOf (C_rsum fu r lo len rw rg nw ov t) G49 (bodyOf Try.f50) [1, 1, 0, 1, 0] (retK tis F50 Try.f50 (List.length ([.var [.int .i64 rw, .int .i64 rg, .slice 2 1 lo len none, .int .i64 nw, .bool ov], .rows (.pair (.int .i64) (.int .i64)) r false] : List Blk)) k) (Ex.exit 0) (S.rsum_x0_0 r lo len rw rg nw ov t (z0) (z1) (z2) (z3) (z4)) = oK (fun v : Int × Int × Int × Int × Nat × Nat × Int × Bool × RL => k (.tuple [(.int .i64 v.1), (.int .i64 v.2.1)]) [(.var [(.int .i64 v.2.2.1), (.int .i64 v.2.2.2.1), (.slice 2 1 v.2.2.2.2.1 v.2.2.2.2.2.1 none), (.int .i64 v.2.2.2.2.2.2.1), (.bool v.2.2.2.2.2.2.2.1)]), (.rows (Cd.pair (Cd.int .i64) (Cd.int .i64)) v.2.2.2.2.2.2.2.2 false)]) (S.rsum_a0_0 fu r lo len rw rg nw ov t z0 z1 z2 z3 z4) :=
  (S.rsum_a0_0_k fu r lo len rw rg nw ov t z0 z1 z2 z3 z4 k).trans rfl
theorem S.rsum_k {R : Type} (fu : Nat) (r : RL) (lo len : Nat) (rw rg nw : Int) (ov : Bool) (t : Int) (k : AVal → List Blk → Option R) : fnEval tis F50 fu G49 Try.f50 [.ptr 0 0 0, .int .i64 t] [.var [.int .i64 rw, .int .i64 rg, .slice 2 1 lo len none, .int .i64 nw, .bool ov], .rows (.pair (.int .i64) (.int .i64)) r false] k =
  (loopRun (C_rsum fu r lo len rw rg nw ov t) G49 S.rsum_b0 fu (S.rsum_s0 r lo len rw rg nw ov t (0) (0) (0) (ov)) (contOf (C_rsum fu r lo len rw rg nw ov t) G49 (bodyOf Try.f50) [1, 1, 0, 1, 0] (retK tis F50 Try.f50 (List.length ([.var [.int .i64 rw, .int .i64 rg, .slice 2 1 lo len none, .int .i64 nw, .bool ov], .rows (.pair (.int .i64) (.int .i64)) r false] : List Blk)) k))) := by kernel_rfl
def S.rsum (fu : Nat) (r : RL) (lo len : Nat) (rw rg nw : Int) (ov : Bool) (t : Int) : Option (Int × Int × Int × Int × Nat × Nat × Int × Bool × RL) :=
  optK (S.rsum_l0 fu r lo len rw rg nw ov t fu (0) (0) (0) (ov)) (fun z : Int × Int × Int × Bool × Bool => S.rsum_a0_0 fu r lo len rw rg nw ov t (z.1) (z.2.1) (z.2.2.1) (z.2.2.2.1) (z.2.2.2.2))
theorem S.rsum_v {R : Type} (fu : Nat) (r : RL) (lo len : Nat) (rw rg nw : Int) (ov : Bool) (t : Int) (k : AVal → List Blk → Option R) : fnEval tis F50 fu G49 Try.f50 [.ptr 0 0 0, .int .i64 t] [.var [.int .i64 rw, .int .i64 rg, .slice 2 1 lo len none, .int .i64 nw, .bool ov], .rows (.pair (.int .i64) (.int .i64)) r false] k = oK (fun v : Int × Int × Int × Int × Nat × Nat × Int × Bool × RL => k (.tuple [(.int .i64 v.1), (.int .i64 v.2.1)]) [(.var [(.int .i64 v.2.2.1), (.int .i64 v.2.2.2.1), (.slice 2 1 v.2.2.2.2.1 v.2.2.2.2.2.1 none), (.int .i64 v.2.2.2.2.2.2.1), (.bool v.2.2.2.2.2.2.2.1)]), (.rows (Cd.pair (Cd.int .i64) (Cd.int .i64)) v.2.2.2.2.2.2.2.2 false)]) (S.rsum fu r lo len rw rg nw ov t) :=
  (S.rsum_k fu r lo len rw rg nw ov t k).trans (arr_lift (S.rsum_l0_v fu r lo len rw rg nw ov t (contOf (C_rsum fu r lo len rw rg nw ov t) G49 (bodyOf Try.f50) [1, 1, 0, 1, 0] (retK tis F50 Try.f50 (List.length ([.var [.int .i64 rw, .int .i64 rg, .slice 2 1 lo len none, .int .i64 nw, .bool ov], .rows (.pair (.int .i64) (.int .i64)) r false] : List Blk)) k)) fu (0) (0) (0) (ov)) ((fun z => S.rsum_a0_0_v fu r lo len rw rg nw ov t (z.1) (z.2.1) (z.2.2.1) (z.2.2.2.1) (z.2.2.2.2) k)))
noncomputable def C_rsum1 (fu : Nat) (rw rg nw : Int) (ov : Bool) (t : Int) : Cfg := Cfg.of tis F50 fu (List.length ([.var [.int .i64 rw, .int .i64 rg, .nils, .int .i64 nw, .bool ov]] : List Blk)) Try.f50.ntmps
noncomputable def S.rsum1_b0 : Code := codeAt (bodyOf Try.f50) [1, 1, 0, 1, 0, 0]
noncomputable def S.rsum1_s0 (rw rg nw : Int) (ov : Bool) (t : Int)  : St := ⟨[(0, (.ptr 0 (0) 0)), (1, (.int .i64 (t))), (6, (.int .i64 (0))), (7, (.int .i64 (0))), (8, (.int .i64 (0)))], [(.var [(.int .i64 (rw)), (.int .i64 (rg)), .nils, (.int .i64 (nw)), (.bool (ov))])]⟩
noncomputable def S.rsum1_x0_0 (rw rg nw : Int) (ov : Bool) (t : Int)  : St := ⟨[(0, (.ptr 0 (0) 0)), (1, (.int .i64 (t))), (6, (.int .i64 (0))), (7, (.int .i64 (0))), (8, (.int .i64 (0))), (22, (.bool (false)))], [(.var [(.int .i64 (rw)), (.int .i64 (rg)), .nils, (.int .i64 (nw)), (.bool (ov))])]⟩
theorem S.rsum1_l0_k {R : Type} (fu : Nat) (rw rg nw : Int) (ov : Bool) (t : Int) (n : Nat) (K : Ex → St → Option R)  : loopRun (C_rsum1 fu rw rg nw ov t) G49 S.rsum1_b0 (n + 1) (S.rsum1_s0 rw rg nw ov t) K =
  (K (Ex.exit 0) (S.rsum1_x0_0 rw rg nw ov t)) := by kernel_rfl
def S.rsum1_l0 (fu : Nat) (rw rg nw : Int) (ov : Bool) (t : Int) : Nat → Option ((Unit))
  | 0 => none
  | n + 1 =>
    some ()
theorem S.rsum1_l0_v {R : Type} (fu : Nat) (rw rg nw : Int) (ov : Bool) (t : Int) (K : Ex → St → Option R) : ∀ (n : Nat) , loopRun (C_rsum1 fu rw rg nw ov t) G49 S.rsum1_b0 n (S.rsum1_s0 rw rg nw ov t) K = oK (β := (Unit)) (fun z : Unit => K (Ex.exit 0) (S.rsum1_x0_0 rw rg nw ov t)) (S.rsum1_l0 fu rw rg nw ov t n)
  | 0 => rfl
  | n + 1 => (S.rsum1_l0_k fu rw rg nw ov t n K).trans rfl
theorem S.rsum1_a0_0_k {R : Type} (fu : Nat) (rw rg nw : Int) (ov : Bool) (t : Int)  (k : AVal → List Blk → Option R) : contOf (C_rsum1 fu rw rg nw ov t) G49 (bodyOf Try.f50) [1, 1, 0, 1, 0] (retK tis F50 Try.f50 (List.length ([.var [.int .i64 rw, .int .i64 rg, .nils, .int .i64 nw, .bool ov]] : List Blk)) k) (Ex.exit 0) (S.rsum1_x0_0 rw rg nw ov t) =
  (k (.tuple [.int .i64 0, .int .i64 0]) ([.var [.int .i64 rw, .int .i64 rg, .nils, .int .i64 nw, .bool ov]])) := by kernel_rfl
def S.rsum1_a0_0 (fu : Nat) (rw rg nw : Int) (ov : Bool) (t : Int)  : Option (Int × Int × Int × Int × Int × Bool) :=
  some (0, 0, rw, rg, nw, ov)
theorem S.rsum1_a0_0_v {R : Type} (fu : Nat) (rw rg nw : Int) (ov : Bool) (t : Int)  (k : AVal → List Blk → Option R) : contOf (C_rsum1 fu rw rg nw ov t) G49 (bodyOf Try.f50) [1, 1, 0, 1, 0] (retK tis F50 Try.f50 (List.length ([.var [.int .i64 rw, .int .i64 rg, .nils, .int .i64 nw, .bool ov]] : List Blk)) k) (Ex.exit 0) (S.rsum1_x0_0 rw rg nw ov t) = oK (fun v : Int × Int × Int × Int × Int × Bool => k (.tuple [(.int .i64 v.1), (.int .i64 v.2.1)]) [(.var [(.int .i64 v.2.2.1), (.int .i64 v.2.2.2.1), .nils, (.int .i64 v.2.2.2.2.1), (.bool v.2.2.2.2.2)])]) (S.rsum1_a0_0 fu rw rg nw ov t) :=
  (S.rsum1_a0_0_k fu rw rg nw ov t k).trans rfl
theorem S.rsum1_k {R : Type} (fu : Nat) (rw rg nw : Int) (ov : Bool) (t : Int) (k : AVal → List Blk → Option R) : fnEval tis F50 fu G49 Try.f50 [.ptr 0 0 0, .int .i64 t] [.var [.int .i64 rw, .int .i64 rg, .nils, .int .i64 nw, .bool ov]] k =
  (loopRun (C_rsum1 fu rw rg nw ov t) G49 S.rsum1_b0 fu (S.rsum1_s0 rw rg nw ov t) (contOf (C_rsum1 fu rw rg nw ov t) G49 (bodyOf Try.f50) [1, 1, 0, 1, 0] (retK tis F50 Try.f50 (List.length ([.var [.int .i64 rw, .int .i64 rg, .nils, .int .i64 nw, .bool ov]] : List Blk)) k))) := by kernel_rfl
def S.rsum1 (fu : Nat) (rw rg nw : Int) (ov : Bool) (t : Int) : Option (Int × Int × Int × Int × Int × Bool) :=
  optK (S.rsum1_l0 fu rw rg nw ov t fu) (fun z : Unit => S.rsum1_a0_0 fu rw rg nw ov t)
theorem S.rsum1_v {R : Type} (fu : Nat) (rw rg nw : Int) (ov : Bool) (t : Int) (k : AVal → List Blk → Option R) : fnEval tis F50 fu G49 Try.f50 [.ptr 0 0 0, .int .i64 t] [.var [.int .i64 rw, .int .i64 rg, .nils, .int .i64 nw, .bool ov]] k = oK (fun v : Int × Int × Int × Int × Int × Bool => k (.tuple [(.int .i64 v.1), (.int .i64 v.2.1)]) [(.var [(.int .i64 v.2.2.1), (.int .i64 v.2.2.2.1), .nils, (.int .i64 v.2.2.2.2.1), (.bool v.2.2.2.2.2)])]) (S.rsum1 fu rw rg nw ov t) :=
  (S.rsum1_k fu rw rg nw ov t k).trans (arr_lift (S.rsum1_l0_v fu rw rg nw ov t (contOf (C_rsum1 fu rw rg nw ov t) G49 (bodyOf Try.f50) [1, 1, 0, 1, 0] (retK tis F50 Try.f50 (List.length ([.var [.int .i64 rw, .int .i64 rg, .nils, .int .i64 nw, .bool ov]] : List Blk)) k)) fu) ((fun z => S.rsum1_a0_0_v fu rw rg nw ov t k)))
def H50 : Hnd := fun R args σ k => match args, σ with
  | [.ptr 0 0 0, .int .i64 t], [.var [.int .i64 rw, .int .i64 rg, .slice 2 1 lo len none, .int .i64 nw, .bool ov], .rows (.pair (.int .i64) (.int .i64)) r false] => oK (fun v : Int × Int × Int × Int × Nat × Nat × Int × Bool × RL => k (.tuple [(.int .i64 v.1), (.int .i64 v.2.1)]) [(.var [(.int .i64 v.2.2.1), (.int .i64 v.2.2.2.1), (.slice 2 1 v.2.2.2.2.1 v.2.2.2.2.2.1 none), (.int .i64 v.2.2.2.2.2.2.1), (.bool v.2.2.2.2.2.2.2.1)]), (.rows (Cd.pair (Cd.int .i64) (Cd.int .i64)) v.2.2.2.2.2.2.2.2 false)]) (S.rsum 100000 r lo len rw rg nw ov t)
  | [.ptr 0 0 0, .int .i64 t], [.var [.int .i64 rw, .int .i64 rg, .nils, .int .i64 nw, .bool ov]] => oK (fun v : Int × Int × Int × Int × Int × Bool => k (.tuple [(.int .i64 v.1), (.int .i64 v.2.1)]) [(.var [(.int .i64 v.2.2.1), (.int .i64 v.2.2.2.1), .nils, (.int .i64 v.2.2.2.2.1), (.bool v.2.2.2.2.2)])]) (S.rsum1 100000 rw rg nw ov t)
  | _, _ => none
theorem H50_ok : HndOk Try.prog 50 H50 := hnd_ok tis tisOk mixOk G49_ok F50 Try.func50 rfl (by
  intro R args σ k r h
  unfold H50 at h
  split at h
  · rename_i t rw rg lo len nw ov r; exact ⟨100000, (S.rsum_v 100000 r lo len rw rg nw ov t _).trans h⟩
  · rename_i t rw rg nw ov; exact ⟨100000, (S.rsum1_v 100000 rw rg nw ov t _).trans h⟩
  · cases h)
def G50 : Env := Env.add 50 H50 G49
theorem G50_ok : EnvOk Try.prog G50 := envAdd_ok H50_ok G49_ok
end Go.Proofs.Ytfoaihjkmfhaoaa.AB
