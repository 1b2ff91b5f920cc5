/- The document's rings, as plain functions. -/
import Derived.Test.YtmgnfjiogfcieaaSring2
namespace Go.Proofs.Ytmgnfjiogfcieaa.AB
set_option linter.unusedVariables false
abbrev RL : Type := List (Int × Int)

/-! spinnakerref1.Add -/
def F32 : FCfg := ⟨keepAt [(0, [0, 1]), (1, [0, 1, 13]), (2, [4, 5]), (3, [0, 1, 21]), (4, [4, 5]), (5, [4, 5])], loopAt [], []⟩
theorem S.radd_k {R : Type} (a b : Int) (k : AVal → List Blk → Option R) : fnEval tis F32 0 G24 Try.f32 [.int .i64 a, .int .i64 b] [] k =
  (bif decide (0 < b) then
    bif decide (Go.IntKind.wrap .i64 (9223372036854775807 - b) < a) then
      k (.tuple [.int .i64 9223372036854775807, .int .i64 2]) ([])
    else
      bif decide (b < 0) then
        bif decide (a < Go.IntKind.wrap .i64 (-9223372036854775808 - b)) then
          k (.tuple [.int .i64 (-9223372036854775808), .int .i64 2]) ([])
        else
          k (.tuple [.int .i64 (Go.IntKind.wrap .i64 (a + b)), .int .i64 0]) ([])
      else
        k (.tuple [.int .i64 (Go.IntKind.wrap .i64 (a + b)), .int .i64 0]) ([])
  else
    bif decide (b < 0) then
      bif decide (a < Go.IntKind.wrap .i64 (-9223372036854775808 - b)) then
        k (.tuple [.int .i64 (-9223372036854775808), .int .i64 2]) ([])
      else
        k (.tuple [.int .i64 (Go.IntKind.wrap .i64 (a + b)), .int .i64 0]) ([])
    else
      k (.tuple [.int .i64 (Go.IntKind.wrap .i64 (a + b)), .int .i64 0]) ([])) := by kernel_rfl
def S.radd (a b : Int) : Int × Int :=
  bif decide (0 < b) then
    bif decide (Go.IntKind.wrap .i64 (9223372036854775807 - b) < a) then
      (9223372036854775807, 2)
    else
      bif decide (b < 0) then
        bif decide (a < Go.IntKind.wrap .i64 (-9223372036854775808 - b)) then
          (-9223372036854775808, 2)
        else
          (Go.IntKind.wrap .i64 (a + b), 0)
      else
        (Go.IntKind.wrap .i64 (a + b), 0)
  else
    bif decide (b < 0) then
      bif decide (a < Go.IntKind.wrap .i64 (-9223372036854775808 - b)) then
        (-9223372036854775808, 2)
      else
        (Go.IntKind.wrap .i64 (a + b), 0)
    else
      (Go.IntKind.wrap .i64 (a + b), 0)
theorem S.radd_v {R : Type} (a b : Int) (k : AVal → List Blk → Option R) : fnEval tis F32 0 G24 Try.f32 [.int .i64 a, .int .i64 b] [] k = k (.tuple [(.int .i64 (S.radd a b).1), (.int .i64 (S.radd a b).2)]) [] :=
  (S.radd_k a b k).trans (bif_lift (f := (fun v : Int × Int => k (.tuple [(.int .i64 v.1), (.int .i64 v.2)]) [])) (bif_lift (f := (fun v : Int × Int => k (.tuple [(.int .i64 v.1), (.int .i64 v.2)]) [])) rfl (bif_lift (f := (fun v : Int × Int => k (.tuple [(.int .i64 v.1), (.int .i64 v.2)]) [])) (bif_lift (f := (fun v : Int × Int => k (.tuple [(.int .i64 v.1), (.int .i64 v.2)]) [])) rfl rfl) rfl)) (bif_lift (f := (fun v : Int × Int => k (.tuple [(.int .i64 v.1), (.int .i64 v.2)]) [])) (bif_lift (f := (fun v : Int × Int => k (.tuple [(.int .i64 v.1), (.int .i64 v.2)]) [])) rfl rfl) rfl))
def H32 : Hnd := fun R args σ k => match args, σ with
  | [.int .i64 a, .int .i64 b], [] => k (.tuple [(.int .i64 (S.radd a b).1), (.int .i64 (S.radd a b).2)]) []
  | _, _ => none
theorem H32_ok : HndOk Try.prog 32 H32 := hnd_ok tis tisOk mixOk G24_ok F32 Try.func32 rfl (by
  intro R args σ k r h
  unfold H32 at h
  split at h
  · rename_i a b; exact ⟨0, (S.radd_v a b _).trans h⟩
  · cases h)
def G32 : Env := Env.add 32 H32 G24
theorem G32_ok : EnvOk Try.prog G32 := envAdd_ok H32_ok G24_ok

/-! spinnakerref5.NewRing -/
def F15 : FCfg := ⟨keepAt [(0, [0, 1]), (1, [0, 1, 19]), (2, [4]), (3, [4])], loopAt [], []⟩
theorem S.rnewring_k {R : Type} (w g : Int) (k : AVal → List Blk → Option R) : fnEval tis F15 0 G32 Try.f15 [.int .i64 w, .int .i64 g] [] k =
  (bif decide (w < 1) then
    k (.nilp) ([])
  else
    bif decide (600 < w) then
      k (.nilp) ([])
    else
      bif decide (g < 1) then
        k (.nilp) ([])
      else
        bif decide (w < g) then
          k (.nilp) ([])
        else
          k (.ptr 0 0 0) ([.var [.int .i64 w, .int .i64 g, .nils, .int .i64 (-1), .bool false]])) := by kernel_rfl
def S.rnewring (w g : Int) : (Unit) ⊕ (Int × Int) :=
  bif decide (w < 1) then
    (.inl ())
  else
    bif decide (600 < w) then
      (.inl ())
    else
      bif decide (g < 1) then
        (.inl ())
      else
        bif decide (w < g) then
          (.inl ())
        else
          (.inr (w, g))
theorem S.rnewring_v {R : Type} (w g : Int) (k : AVal → List Blk → Option R) : fnEval tis F15 0 G32 Try.f15 [.int .i64 w, .int .i64 g] [] k = (Sum.elim (fun v : Unit => k .nilp []) (fun v : Int × Int => k (.ptr 0 (0) 0) [(.var [(.int .i64 v.1), (.int .i64 v.2), .nils, (.int .i64 (-1)), (.bool (false))])])) (S.rnewring w g) :=
  (S.rnewring_k w g k).trans (bif_lift (f := (Sum.elim (fun v : Unit => k .nilp []) (fun v : Int × Int => k (.ptr 0 (0) 0) [(.var [(.int .i64 v.1), (.int .i64 v.2), .nils, (.int .i64 (-1)), (.bool (false))])]))) rfl (bif_lift (f := (Sum.elim (fun v : Unit => k .nilp []) (fun v : Int × Int => k (.ptr 0 (0) 0) [(.var [(.int .i64 v.1), (.int .i64 v.2), .nils, (.int .i64 (-1)), (.bool (false))])]))) rfl (bif_lift (f := (Sum.elim (fun v : Unit => k .nilp []) (fun v : Int × Int => k (.ptr 0 (0) 0) [(.var [(.int .i64 v.1), (.int .i64 v.2), .nils, (.int .i64 (-1)), (.bool (false))])]))) rfl (bif_lift (f := (Sum.elim (fun v : Unit => k .nilp []) (fun v : Int × Int => k (.ptr 0 (0) 0) [(.var [(.int .i64 v.1), (.int .i64 v.2), .nils, (.int .i64 (-1)), (.bool (false))])]))) rfl rfl))))
def H15 : Hnd := fun R args σ k => match args, σ with
  | [.int .i64 w, .int .i64 g], [] => (Sum.elim (fun v : Unit => k .nilp []) (fun v : Int × Int => k (.ptr 0 (0) 0) [(.var [(.int .i64 v.1), (.int .i64 v.2), .nils, (.int .i64 (-1)), (.bool (false))])])) (S.rnewring w g)
  | _, _ => none
theorem H15_ok : HndOk Try.prog 15 H15 := hnd_ok tis tisOk mixOk G32_ok F15 Try.func15 rfl (by
  intro R args σ k r h
  unfold H15 at h
  split at h
  · rename_i w g; exact ⟨0, (S.rnewring_v w g _).trans h⟩
  · cases h)
def G15 : Env := Env.add 15 H15 G32
theorem G15_ok : EnvOk Try.prog G15 := envAdd_ok H15_ok G32_ok

/-! (*spinnakerref5.Ring).N -/
def F23 : FCfg := ⟨keepAt [(0, [0]), (1, [2])], loopAt [], []⟩
theorem S.rN_k {R : Type} (r : RL) (lo len : Nat) (rw rg nw : Int) (ov : Bool) (k : AVal → List Blk → Option R) : fnEval tis F23 0 G15 Try.f23 [.ptr 0 0 0] [.var [.int .i64 rw, .int .i64 rg, .slice 2 1 lo len none, .int .i64 nw, .bool ov], .rows (.pair (.int .i64) (.int .i64)) r false] k =
  (bif decide (rg = 0) then
    none
  else
    k (.int .i64 (Go.IntKind.wrap .i64 (Int.tdiv (Go.IntKind.wrap .i64 (Go.IntKind.wrap .i64 (rw + rg) - 1)) rg))) ([.var [.int .i64 rw, .int .i64 rg, .slice 2 1 lo len Option.none, .int .i64 nw, .bool ov], .rows (Cd.pair (Cd.int .i64) (Cd.int .i64)) r false])) := by kernel_rfl
def S.rN (r : RL) (lo len : Nat) (rw rg nw : Int) (ov : Bool) : Option (Int) :=
  bif decide (rg = 0) then
    none
  else
    some (Go.IntKind.wrap .i64 (Int.tdiv (Go.IntKind.wrap .i64 (Go.IntKind.wrap .i64 (rw + rg) - 1)) rg))
theorem S.rN_v {R : Type} (r : RL) (lo len : Nat) (rw rg nw : Int) (ov : Bool) (k : AVal → List Blk → Option R) : fnEval tis F23 0 G15 Try.f23 [.ptr 0 0 0] [.var [.int .i64 rw, .int .i64 rg, .slice 2 1 lo len none, .int .i64 nw, .bool ov], .rows (.pair (.int .i64) (.int .i64)) r false] k = oK (fun v : Int => k (.int .i64 v) [.var [.int .i64 rw, .int .i64 rg, .slice 2 1 lo len none, .int .i64 nw, .bool ov], .rows (.pair (.int .i64) (.int .i64)) r false]) (S.rN r lo len rw rg nw ov) :=
  (S.rN_k r lo len rw rg nw ov k).trans (bif_lift (f := (oK (fun v : Int => k (.int .i64 v) [.var [.int .i64 rw, .int .i64 rg, .slice 2 1 lo len none, .int .i64 nw, .bool ov], .rows (.pair (.int .i64) (.int .i64)) r false]))) rfl rfl)
theorem S.rN1_k {R : Type} (rw rg nw : Int) (ov : Bool) (k : AVal → List Blk → Option R) : fnEval tis F23 0 G15 Try.f23 [.ptr 0 0 0] [.var [.int .i64 rw, .int .i64 rg, .nils, .int .i64 nw, .bool ov]] k =
  (bif decide (rg = 0) then
    none
  else
    k (.int .i64 (Go.IntKind.wrap .i64 (Int.tdiv (Go.IntKind.wrap .i64 (Go.IntKind.wrap .i64 (rw + rg) - 1)) rg))) ([.var [.int .i64 rw, .int .i64 rg, .nils, .int .i64 nw, .bool ov]])) := by kernel_rfl
def S.rN1 (rw rg nw : Int) (ov : Bool) : Option (Int) :=
  bif decide (rg = 0) then
    none
  else
    some (Go.IntKind.wrap .i64 (Int.tdiv (Go.IntKind.wrap .i64 (Go.IntKind.wrap .i64 (rw + rg) - 1)) rg))
theorem S.rN1_v {R : Type} (rw rg nw : Int) (ov : Bool) (k : AVal → List Blk → Option R) : fnEval tis F23 0 G15 Try.f23 [.ptr 0 0 0] [.var [.int .i64 rw, .int .i64 rg, .nils, .int .i64 nw, .bool ov]] k = oK (fun v : Int => k (.int .i64 v) [.var [.int .i64 rw, .int .i64 rg, .nils, .int .i64 nw, .bool ov]]) (S.rN1 rw rg nw ov) :=
  (S.rN1_k rw rg nw ov k).trans (bif_lift (f := (oK (fun v : Int => k (.int .i64 v) [.var [.int .i64 rw, .int .i64 rg, .nils, .int .i64 nw, .bool ov]]))) rfl rfl)
def H23 : Hnd := fun R args σ k => match args, σ with
  | [.ptr 0 0 0], [.var [.int .i64 rw, .int .i64 rg, .slice 2 1 lo len none, .int .i64 nw, .bool ov], .rows (.pair (.int .i64) (.int .i64)) r false] => oK (fun v : Int => k (.int .i64 v) []) (S.rN r lo len rw rg nw ov)
  | [.ptr 0 0 0], [.var [.int .i64 rw, .int .i64 rg, .nils, .int .i64 nw, .bool ov]] => oK (fun v : Int => k (.int .i64 v) []) (S.rN1 rw rg nw ov)
  | _, _ => none
theorem H23_ok : HndOk Try.prog 23 H23 := hnd_ok_pure tis tisOk mixOk G15_ok F23 Try.func23 rfl (by
  intro R args σ k r h
  unfold H23 at h
  split at h
  · rename_i rw rg lo len nw ov r; exact ⟨0, (S.rN_v r lo len rw rg nw ov _).trans ((congrArg (fun g9 => oK g9 (S.rN r lo len rw rg nw ov)) (funext fun v => if_pos rfl)).trans h)⟩
  · rename_i rw rg nw ov; exact ⟨0, (S.rN1_v rw rg nw ov _).trans ((congrArg (fun g9 => oK g9 (S.rN1 rw rg nw ov)) (funext fun v => if_pos rfl)).trans h)⟩
  · cases h)
def G23 : Env := Env.add 23 H23 G15
theorem G23_ok : EnvOk Try.prog G23 := envAdd_ok H23_ok G15_ok

/-! (*spinnakerref5.Ring).bucket -/
def F30 : FCfg := ⟨keepAt [(0, [0, 1]), (1, [4])], loopAt [], []⟩
theorem S.rbucket_k {R : Type} (r : RL) (lo len : Nat) (rw rg nw : Int) (ov : Bool) (t : Int) (k : AVal → List Blk → Option R) : fnEval tis F30 0 G23 Try.f30 [.ptr 0 0 0, .int .i64 t] [.var [.int .i64 rw, .int .i64 rg, .slice 2 1 lo len none, .int .i64 nw, .bool ov], .rows (.pair (.int .i64) (.int .i64)) r false] k =
  (bif decide (rg = 0) then
    none
  else
    k (.int .i64 (Go.IntKind.wrap .i64 (Int.tdiv t rg))) ([.var [.int .i64 rw, .int .i64 rg, .slice 2 1 lo len Option.none, .int .i64 nw, .bool ov], .rows (Cd.pair (Cd.int .i64) (Cd.int .i64)) r false])) := by kernel_rfl
def S.rbucket (r : RL) (lo len : Nat) (rw rg nw : Int) (ov : Bool) (t : Int) : Option (Int) :=
  bif decide (rg = 0) then
    none
  else
    some (Go.IntKind.wrap .i64 (Int.tdiv t rg))
theorem S.rbucket_v {R : Type} (r : RL) (lo len : Nat) (rw rg nw : Int) (ov : Bool) (t : Int) (k : AVal → List Blk → Option R) : fnEval tis F30 0 G23 Try.f30 [.ptr 0 0 0, .int .i64 t] [.var [.int .i64 rw, .int .i64 rg, .slice 2 1 lo len none, .int .i64 nw, .bool ov], .rows (.pair (.int .i64) (.int .i64)) r false] k = oK (fun v : Int => k (.int .i64 v) [.var [.int .i64 rw, .int .i64 rg, .slice 2 1 lo len none, .int .i64 nw, .bool ov], .rows (.pair (.int .i64) (.int .i64)) r false]) (S.rbucket r lo len rw rg nw ov t) :=
  (S.rbucket_k r lo len rw rg nw ov t k).trans (bif_lift (f := (oK (fun v : Int => k (.int .i64 v) [.var [.int .i64 rw, .int .i64 rg, .slice 2 1 lo len none, .int .i64 nw, .bool ov], .rows (.pair (.int .i64) (.int .i64)) r false]))) rfl rfl)
theorem S.rbucket1_k {R : Type} (rw rg nw : Int) (ov : Bool) (t : Int) (k : AVal → List Blk → Option R) : fnEval tis F30 0 G23 Try.f30 [.ptr 0 0 0, .int .i64 t] [.var [.int .i64 rw, .int .i64 rg, .nils, .int .i64 nw, .bool ov]] k =
  (bif decide (rg = 0) then
    none
  else
    k (.int .i64 (Go.IntKind.wrap .i64 (Int.tdiv t rg))) ([.var [.int .i64 rw, .int .i64 rg, .nils, .int .i64 nw, .bool ov]])) := by kernel_rfl
def S.rbucket1 (rw rg nw : Int) (ov : Bool) (t : Int) : Option (Int) :=
  bif decide (rg = 0) then
    none
  else
    some (Go.IntKind.wrap .i64 (Int.tdiv t rg))
theorem S.rbucket1_v {R : Type} (rw rg nw : Int) (ov : Bool) (t : Int) (k : AVal → List Blk → Option R) : fnEval tis F30 0 G23 Try.f30 [.ptr 0 0 0, .int .i64 t] [.var [.int .i64 rw, .int .i64 rg, .nils, .int .i64 nw, .bool ov]] k = oK (fun v : Int => k (.int .i64 v) [.var [.int .i64 rw, .int .i64 rg, .nils, .int .i64 nw, .bool ov]]) (S.rbucket1 rw rg nw ov t) :=
  (S.rbucket1_k rw rg nw ov t k).trans (bif_lift (f := (oK (fun v : Int => k (.int .i64 v) [.var [.int .i64 rw, .int .i64 rg, .nils, .int .i64 nw, .bool ov]]))) rfl rfl)
def H30 : Hnd := fun R args σ k => match args, σ with
  | [.ptr 0 0 0, .int .i64 t], [.var [.int .i64 rw, .int .i64 rg, .slice 2 1 lo len none, .int .i64 nw, .bool ov], .rows (.pair (.int .i64) (.int .i64)) r false] => oK (fun v : Int => k (.int .i64 v) []) (S.rbucket r lo len rw rg nw ov t)
  | [.ptr 0 0 0, .int .i64 t], [.var [.int .i64 rw, .int .i64 rg, .nils, .int .i64 nw, .bool ov]] => oK (fun v : Int => k (.int .i64 v) []) (S.rbucket1 rw rg nw ov t)
  | _, _ => none
theorem H30_ok : HndOk Try.prog 30 H30 := hnd_ok_pure tis tisOk mixOk G23_ok F30 Try.func30 rfl (by
  intro R args σ k r h
  unfold H30 at h
  split at h
  · rename_i t rw rg lo len nw ov r; exact ⟨0, (S.rbucket_v r lo len rw rg nw ov t _).trans ((congrArg (fun g9 => oK g9 (S.rbucket r lo len rw rg nw ov t)) (funext fun v => if_pos rfl)).trans h)⟩
  · rename_i t rw rg nw ov; exact ⟨0, (S.rbucket1_v rw rg nw ov t _).trans ((congrArg (fun g9 => oK g9 (S.rbucket1 rw rg nw ov t)) (funext fun v => if_pos rfl)).trans h)⟩
  · cases h)
def G30 : Env := Env.add 30 H30 G23
theorem G30_ok : EnvOk Try.prog G30 := envAdd_ok H30_ok G23_ok

/-! (*spinnakerref5.Ring).forget -/
def F31 : FCfg := ⟨keepAt [(0, [0, 2]), (1, [0, 2, 3]), (2, [0, 2, 3, 10]), (3, [0, 2, 3]), (4, [0, 2, 3, 30]), (5, [0, 2, 3]), (6, [])], loopAt [(2, [0, 2, 3], [⟨0, true, 2, [], 0, (.pair (.int .i64) (.int .i64)), none⟩])], []⟩
noncomputable def C_rforget (fu : Nat) (r : RL) (lo len : Nat) (rw rg nw : Int) (ov : Bool) : Cfg := Cfg.of tis F31 fu (List.length ([.var [.int .i64 rw, .int .i64 rg, .slice 2 1 lo len none, .int .i64 nw, .bool ov], .rows (.pair (.int .i64) (.int .i64)) r false] : List Blk)) Try.f31.ntmps
noncomputable def S.rforget_b0 : Code := codeAt (bodyOf Try.f31) [1, 0, 1, 0, 0]
noncomputable def S.rforget_s0 (r : RL) (lo len : Nat) (rw rg nw : Int) (ov : Bool) (y0 : Nat) (y1 : Int) (y2 : List (Int × Int)) : St := ⟨[(0, (.ptr 0 (0) 0)), (2, (.slice 2 2 (0) (y0) none)), (3, (.int .i64 (y1)))], [(.var [(.int .i64 (rw)), (.int .i64 (rg)), (.slice 2 1 (lo) (len) none), (.int .i64 (nw)), (.bool (ov))]), (.rows (Cd.pair (Cd.int .i64) (Cd.int .i64)) (r) false), (.rows (Cd.pair (Cd.int .i64) (Cd.int .i64)) (y2) false)]⟩
noncomputable def S.rforget_x0_0 (r : RL) (lo len : Nat) (rw rg nw : Int) (ov : Bool) (z0 : Nat) (z1 : Int) (z2 : Bool) (z3 : List (Int × Int)) : St := ⟨[(0, (.ptr 0 (0) 0)), (2, (.slice 2 2 (0) (z0) none)), (3, (.int .i64 (z1))), (10, (.bool (z2)))], [(.var [(.int .i64 (rw)), (.int .i64 (rg)), (.slice 2 1 (lo) (len) none), (.int .i64 (nw)), (.bool (ov))]), (.rows (Cd.pair (Cd.int .i64) (Cd.int .i64)) (r) false), (.rows (Cd.pair (Cd.int .i64) (Cd.int .i64)) (z3) false)]⟩
noncomputable def S.rforget_g0 {R : Type} (r : RL) (lo len : Nat) (rw rg nw : Int) (ov : Bool) (K : Ex → St → Option R) : ((Nat × Int × Bool × List (Int × Int))) → Option R := (fun z : Nat × Int × Bool × List (Int × Int) => K (Ex.exit 0) (S.rforget_x0_0 r lo len rw rg nw ov (z.1) (z.2.1) (z.2.2.1) (z.2.2.2)))
noncomputable def S.rforget_gk {R : Type} (r : RL) (lo len : Nat) (rw rg nw : Int) (ov : Bool) (k : AVal → List Blk → Option R) : (Int × Int × Nat × Int × Bool × RL × List (Int × Int)) → Option R := (fun v : Int × Int × Nat × Int × Bool × RL × List (Int × Int) => k (.tuple []) [(.var [(.int .i64 v.1), (.int .i64 v.2.1), (.slice 2 2 (0) v.2.2.1 none), (.int .i64 v.2.2.2.1), (.bool v.2.2.2.2.1)]), (.rows (Cd.pair (Cd.int .i64) (Cd.int .i64)) v.2.2.2.2.2.1 false), (.rows (Cd.pair (Cd.int .i64) (Cd.int .i64)) v.2.2.2.2.2.2 false)])
theorem S.rforget_l0_k {R : Type} (fu : Nat) (r : RL) (lo len : Nat) (rw rg nw : Int) (ov : Bool) (n : Nat) (K : Ex → St → Option R) (y0 : Nat) (y1 : Int) (y2 : List (Int × Int)) : loopRun (C_rforget fu r lo len rw rg nw ov) G30 S.rforget_b0 (n + 1) (S.rforget_s0 r lo len rw rg nw ov (y0) (y1) (y2)) K =
  (bif decide (y1 < ((len : Nat) : Int)) then
    bif inB y1 len then
      (optK (r[Int.toNat y1 + lo]?) fun o4 =>
        (optK (S.rbucket r lo len rw rg nw ov o4.1) fun o5 =>
          (optK (S.rN r lo len rw rg nw ov) fun o6 =>
            bif decide (Go.IntKind.wrap .i64 (nw - o5) < o6) then
              bif inB y1 len then
                (optK (r[Int.toNat y1 + lo]?) fun o9 =>
                  bif Nat.beq 2 2 && Nat.blt 0 16 && Nat.beq 2 2 && Nat.beq 2 2 && Nat.beq 2 2 && Nat.blt 0 1 && !Nat.beq 2 3 && Nat.ble ((y0 + 1) * 16) 35184372088832 then
                    loopRun (C_rforget fu r lo len rw rg nw ov) G30 S.rforget_b0 n (S.rforget_s0 r lo len rw rg nw ov (List.length (cutL y2 0 y0 ++ cutL [(o9.1, o9.2)] 0 1)) (Go.IntKind.wrap .i64 (y1 + 1)) (cutL y2 0 y0 ++ cutL [(o9.1, o9.2)] 0 1)) K
                  else
                    none)
              else
                none
            else
              loopRun (C_rforget fu r lo len rw rg nw ov) G30 S.rforget_b0 n (S.rforget_s0 r lo len rw rg nw ov (y0) (Go.IntKind.wrap .i64 (y1 + 1)) (y2)) K)))
    else
      none
  else
    K (Ex.exit 0) (S.rforget_x0_0 r lo len rw rg nw ov (y0) (y1) (decide (y1 < ((len : Nat) : Int))) (y2))) := by kernel_rfl
def S.rforget_l0 (fu : Nat) (r : RL) (lo len : Nat) (rw rg nw : Int) (ov : Bool) : Nat → (Nat) → (Int) → (List (Int × Int)) → Option ((Nat × Int × Bool × List (Int × Int)))
  | 0, _, _, _ => none
  | n + 1, y0, y1, y2 =>
    bif decide (y1 < ((len : Nat) : Int)) then
      bif inB y1 len then
        (optK (r[Int.toNat y1 + lo]?) fun o4 =>
          (optK (S.rbucket r lo len rw rg nw ov o4.1) fun o5 =>
            (optK (S.rN r lo len rw rg nw ov) fun o6 =>
              bif decide (Go.IntKind.wrap .i64 (nw - o5) < o6) then
                bif inB y1 len then
                  (optK (r[Int.toNat y1 + lo]?) fun o9 =>
                    bif Nat.beq 2 2 && Nat.blt 0 16 && Nat.beq 2 2 && Nat.beq 2 2 && Nat.beq 2 2 && Nat.blt 0 1 && !Nat.beq 2 3 && Nat.ble ((y0 + 1) * 16) 35184372088832 then
                      (S.rforget_l0 fu r lo len rw rg nw ov n) (List.length (cutL y2 0 y0 ++ cutL [(o9.1, o9.2)] 0 1)) (Go.IntKind.wrap .i64 (y1 + 1)) (cutL y2 0 y0 ++ cutL [(o9.1, o9.2)] 0 1)
                    else
                      none)
                else
                  none
              else
                (S.rforget_l0 fu r lo len rw rg nw ov n) (y0) (Go.IntKind.wrap .i64 (y1 + 1)) (y2))))
      else
        none
    else
      some (y0, y1, decide (y1 < ((len : Nat) : Int)), y2)
theorem S.rforget_l0_v {R : Type} (fu : Nat) (r : RL) (lo len : Nat) (rw rg nw : Int) (ov : Bool) (K : Ex → St → Option R) : ∀ (n : Nat) (y0 : Nat) (y1 : Int) (y2 : List (Int × Int)), loopRun (C_rforget fu r lo len rw rg nw ov) G30 S.rforget_b0 n (S.rforget_s0 r lo len rw rg nw ov (y0) (y1) (y2)) K = oK (β := (Nat × Int × Bool × List (Int × Int))) (S.rforget_g0 r lo len rw rg nw ov K) (S.rforget_l0 fu r lo len rw rg nw ov n y0 y1 y2)
  | 0, _, _, _ => rfl
  | n + 1, y0, y1, y2 => (S.rforget_l0_k fu r lo len rw rg nw ov n K y0 y1 y2).trans (bif_lift (f := (oK (β := (Nat × Int × Bool × List (Int × Int))) (S.rforget_g0 r lo len rw rg nw ov K))) (bif_lift (f := (oK (β := (Nat × Int × Bool × List (Int × Int))) (S.rforget_g0 r lo len rw rg nw ov K))) (opt_lift fun o4 => (opt_lift fun o5 => (opt_lift fun o6 => (bif_lift (f := (oK (β := (Nat × Int × Bool × List (Int × Int))) (S.rforget_g0 r lo len rw rg nw ov K))) (bif_lift (f := (oK (β := (Nat × Int × Bool × List (Int × Int))) (S.rforget_g0 r lo len rw rg nw ov K))) (opt_lift fun o9 => (bif_lift (f := (oK (β := (Nat × Int × Bool × List (Int × Int))) (S.rforget_g0 r lo len rw rg nw ov K))) (S.rforget_l0_v fu r lo len rw rg nw ov K n (List.length (cutL y2 0 y0 ++ cutL [(o9.1, o9.2)] 0 1)) (Go.IntKind.wrap .i64 (y1 + 1)) (cutL y2 0 y0 ++ cutL [(o9.1, o9.2)] 0 1)) rfl)) rfl) (S.rforget_l0_v fu r lo len rw rg nw ov K n (y0) (Go.IntKind.wrap .i64 (y1 + 1)) (y2)))))) rfl) rfl)
theorem S.rforget_a0_0_k {R : Type} (fu : Nat) (r : RL) (lo len : Nat) (rw rg nw : Int) (ov : Bool) (z0 : Nat) (z1 : Int) (z2 : Bool) (z3 : List (Int × Int)) (k : AVal → List Blk → Option R) : contOf (C_rforget fu r lo len rw rg nw ov) G30 (bodyOf Try.f31) [1, 0, 1, 0] (retK tis F31 Try.f31 (List.length ([.var [.int .i64 rw, .int .i64 rg, .slice 2 1 lo len none, .int .i64 nw, .bool ov], .rows (.pair (.int .i64) (.int .i64)) r false] : List Blk)) k) (Ex.exit 0) (S.rforget_x0_0 r lo len rw rg nw ov (z0) (z1) (z2) (z3)) =
  (k (.tuple []) ([.var [.int .i64 rw, .int .i64 rg, .slice 2 2 0 z0 Option.none, .int .i64 nw, .bool ov], .rows (Cd.pair (Cd.int .i64) (Cd.int .i64)) r false, .rows (Cd.pair (Cd.int .i64) (Cd.int .i64)) z3 false])) := by kernel_rfl
def S.rforget_a0_0 (fu : Nat) (r : RL) (lo len : Nat) (rw rg nw : Int) (ov : Bool) (z0 : Nat) (z1 : Int) (z2 : Bool) (z3 : List (Int × Int)) : Option (Int × Int × Nat × Int × Bool × RL × List (Int × Int)) :=
  some (rw, rg, z0, nw, ov, r, z3)
theorem S.rforget_a0_0_v {R : Type} (fu : Nat) (r : RL) (lo len : Nat) (rw rg nw : Int) (ov : Bool) (z0 : Nat) (z1 : Int) (z2 : Bool) (z3 : List (Int × Int)) (k : AVal → List Blk → Option R) : contOf (C_rforget fu r lo len rw rg nw ov) G30 (bodyOf Try.f31) [1, 0, 1, 0] (retK tis F31 Try.f31 (List.length ([.var [.int .i64 rw, .int .i64 rg, .slice 2 1 lo len none, .int .i64 nw, .bool ov], .rows (.pair (.int .i64) (.int .i64)) r false] : List Blk)) k) (Ex.exit 0) (S.rforget_x0_0 r lo len rw rg nw ov (z0) (z1) (z2) (z3)) = oK (S.rforget_gk r lo len rw rg nw ov k) (S.rforget_a0_0 fu r lo len rw rg nw ov z0 z1 z2 z3) :=
  (S.rforget_a0_0_k fu r lo len rw rg nw ov z0 z1 z2 z3 k).trans rfl
theorem S.rforget_k {R : Type} (fu : Nat) (r : RL) (lo len : Nat) (rw rg nw : Int) (ov : Bool) (k : AVal → List Blk → Option R) : fnEval tis F31 fu G30 Try.f31 [.ptr 0 0 0] [.var [.int .i64 rw, .int .i64 rg, .slice 2 1 lo len none, .int .i64 nw, .bool ov], .rows (.pair (.int .i64) (.int .i64)) r false] k =
  (loopRun (C_rforget fu r lo len rw rg nw ov) G30 S.rforget_b0 fu (S.rforget_s0 r lo len rw rg nw ov (0) (0) ([])) (contOf (C_rforget fu r lo len rw rg nw ov) G30 (bodyOf Try.f31) [1, 0, 1, 0] (retK tis F31 Try.f31 (List.length ([.var [.int .i64 rw, .int .i64 rg, .slice 2 1 lo len none, .int .i64 nw, .bool ov], .rows (.pair (.int .i64) (.int .i64)) r false] : List Blk)) k))) := by kernel_rfl
def S.rforget (fu : Nat) (r : RL) (lo len : Nat) (rw rg nw : Int) (ov : Bool) : Option (Int × Int × Nat × Int × Bool × RL × List (Int × Int)) :=
  optK (S.rforget_l0 fu r lo len rw rg nw ov fu (0) (0) ([])) (fun z : Nat × Int × Bool × List (Int × Int) => S.rforget_a0_0 fu r lo len rw rg nw ov (z.1) (z.2.1) (z.2.2.1) (z.2.2.2))
theorem S.rforget_v {R : Type} (fu : Nat) (r : RL) (lo len : Nat) (rw rg nw : Int) (ov : Bool) (k : AVal → List Blk → Option R) : fnEval tis F31 fu G30 Try.f31 [.ptr 0 0 0] [.var [.int .i64 rw, .int .i64 rg, .slice 2 1 lo len none, .int .i64 nw, .bool ov], .rows (.pair (.int .i64) (.int .i64)) r false] k = oK (fun v : Int × Int × Nat × Int × Bool × RL × List (Int × Int) => k (.tuple []) [(.var [(.int .i64 v.1), (.int .i64 v.2.1), (.slice 2 2 (0) v.2.2.1 none), (.int .i64 v.2.2.2.1), (.bool v.2.2.2.2.1)]), (.rows (Cd.pair (Cd.int .i64) (Cd.int .i64)) v.2.2.2.2.2.1 false), (.rows (Cd.pair (Cd.int .i64) (Cd.int .i64)) v.2.2.2.2.2.2 false)]) (S.rforget fu r lo len rw rg nw ov) :=
  (S.rforget_k fu r lo len rw rg nw ov k).trans (arr_lift (S.rforget_l0_v fu r lo len rw rg nw ov (contOf (C_rforget fu r lo len rw rg nw ov) G30 (bodyOf Try.f31) [1, 0, 1, 0] (retK tis F31 Try.f31 (List.length ([.var [.int .i64 rw, .int .i64 rg, .slice 2 1 lo len none, .int .i64 nw, .bool ov], .rows (.pair (.int .i64) (.int .i64)) r false] : List Blk)) k)) fu (0) (0) ([])) ((fun z => S.rforget_a0_0_v fu r lo len rw rg nw ov (z.1) (z.2.1) (z.2.2.1) (z.2.2.2) k)))
noncomputable def C_rforget1 (fu : Nat) (rw rg nw : Int) (ov : Bool) : Cfg := Cfg.of tis F31 fu (List.length ([.var [.int .i64 rw, .int .i64 rg, .nils, .int .i64 nw, .bool ov]] : List Blk)) Try.f31.ntmps
noncomputable def S.rforget1_b0 : Code := codeAt (bodyOf Try.f31) [1, 0, 1, 0, 0]
noncomputable def S.rforget1_s0 (rw rg nw : Int) (ov : Bool)  : St := ⟨[(0, (.ptr 0 (0) 0)), (2, (.slice 2 1 (0) (0) none)), (3, (.int .i64 (0)))], [(.var [(.int .i64 (rw)), (.int .i64 (rg)), .nils, (.int .i64 (nw)), (.bool (ov))]), (.rows (Cd.pair (Cd.int .i64) (Cd.int .i64)) ([]) false)]⟩
noncomputable def S.rforget1_x0_0 (rw rg nw : Int) (ov : Bool)  : St := ⟨[(0, (.ptr 0 (0) 0)), (2, (.slice 2 1 (0) (0) none)), (3, (.int .i64 (0))), (10, (.bool (false)))], [(.var [(.int .i64 (rw)), (.int .i64 (rg)), .nils, (.int .i64 (nw)), (.bool (ov))]), (.rows (Cd.pair (Cd.int .i64) (Cd.int .i64)) ([]) false)]⟩
noncomputable def S.rforget1_g0 {R : Type} (rw rg nw : Int) (ov : Bool) (K : Ex → St → Option R) : ((Unit)) → Option R := (fun z : Unit => K (Ex.exit 0) (S.rforget1_x0_0 rw rg nw ov))
noncomputable def S.rforget1_gk {R : Type} (rw rg nw : Int) (ov : Bool) (k : AVal → List Blk → Option R) : (Int × Int × Int × Bool × List (Int × Int)) → Option R := (fun v : Int × Int × Int × Bool × List (Int × Int) => k (.tuple []) [(.var [(.int .i64 v.1), (.int .i64 v.2.1), (.slice 2 1 (0) (0) none), (.int .i64 v.2.2.1), (.bool v.2.2.2.1)]), (.rows (Cd.pair (Cd.int .i64) (Cd.int .i64)) v.2.2.2.2 false)])
theorem S.rforget1_l0_k {R : Type} (fu : Nat) (rw rg nw : Int) (ov : Bool) (n : Nat) (K : Ex → St → Option R)  : loopRun (C_rforget1 fu rw rg nw ov) G30 S.rforget1_b0 (n + 1) (S.rforget1_s0 rw rg nw ov) K =
  (K (Ex.exit 0) (S.rforget1_x0_0 rw rg nw ov)) := by kernel_rfl
def S.rforget1_l0 (fu : Nat) (rw rg nw : Int) (ov : Bool) : Nat → Option ((Unit))
  | 0 => none
  | n + 1 =>
    some ()
theorem S.rforget1_l0_v {R : Type} (fu : Nat) (rw rg nw : Int) (ov : Bool) (K : Ex → St → Option R) : ∀ (n : Nat) , loopRun (C_rforget1 fu rw rg nw ov) G30 S.rforget1_b0 n (S.rforget1_s0 rw rg nw ov) K = oK (β := (Unit)) (S.rforget1_g0 rw rg nw ov K) (S.rforget1_l0 fu rw rg nw ov n)
  | 0 => rfl
  | n + 1 => (S.rforget1_l0_k fu rw rg nw ov n K).trans rfl
theorem S.rforget1_a0_0_k {R : Type} (fu : Nat) (rw rg nw : Int) (ov : Bool)  (k : AVal → List Blk → Option R) : contOf (C_rforget1 fu rw rg nw ov) G30 (bodyOf Try.f31) [1, 0, 1, 0] (retK tis F31 Try.f31 (List.length ([.var [.int .i64 rw, .int .i64 rg, .nils, .int .i64 nw, .bool ov]] : List Blk)) k) (Ex.exit 0) (S.rforget1_x0_0 rw rg nw ov) =
  (k (.tuple []) ([.var [.int .i64 rw, .int .i64 rg, .slice 2 1 0 0 Option.none, .int .i64 nw, .bool ov], .rows (Cd.pair (Cd.int .i64) (Cd.int .i64)) [] false])) := by kernel_rfl
def S.rforget1_a0_0 (fu : Nat) (rw rg nw : Int) (ov : Bool)  : Option (Int × Int × Int × Bool × List (Int × Int)) :=
  some (rw, rg, nw, ov, [])
theorem S.rforget1_a0_0_v {R : Type} (fu : Nat) (rw rg nw : Int) (ov : Bool)  (k : AVal → List Blk → Option R) : contOf (C_rforget1 fu rw rg nw ov) G30 (bodyOf Try.f31) [1, 0, 1, 0] (retK tis F31 Try.f31 (List.length ([.var [.int .i64 rw, .int .i64 rg, .nils, .int .i64 nw, .bool ov]] : List Blk)) k) (Ex.exit 0) (S.rforget1_x0_0 rw rg nw ov) = oK (S.rforget1_gk rw rg nw ov k) (S.rforget1_a0_0 fu rw rg nw ov) :=
  (S.rforget1_a0_0_k fu rw rg nw ov k).trans rfl
theorem S.rforget1_k {R : Type} (fu : Nat) (rw rg nw : Int) (ov : Bool) (k : AVal → List Blk → Option R) : fnEval tis F31 fu G30 Try.f31 [.ptr 0 0 0] [.var [.int .i64 rw, .int .i64 rg, .nils, .int .i64 nw, .bool ov]] k =
  (loopRun (C_rforget1 fu rw rg nw ov) G30 S.rforget1_b0 fu (S.rforget1_s0 rw rg nw ov) (contOf (C_rforget1 fu rw rg nw ov) G30 (bodyOf Try.f31) [1, 0, 1, 0] (retK tis F31 Try.f31 (List.length ([.var [.int .i64 rw, .int .i64 rg, .nils, .int .i64 nw, .bool ov]] : List Blk)) k))) := by kernel_rfl
def S.rforget1 (fu : Nat) (rw rg nw : Int) (ov : Bool) : Option (Int × Int × Int × Bool × List (Int × Int)) :=
  optK (S.rforget1_l0 fu rw rg nw ov fu) (fun z : Unit => S.rforget1_a0_0 fu rw rg nw ov)
theorem S.rforget1_v {R : Type} (fu : Nat) (rw rg nw : Int) (ov : Bool) (k : AVal → List Blk → Option R) : fnEval tis F31 fu G30 Try.f31 [.ptr 0 0 0] [.var [.int .i64 rw, .int .i64 rg, .nils, .int .i64 nw, .bool ov]] k = oK (fun v : Int × Int × Int × Bool × List (Int × Int) => k (.tuple []) [(.var [(.int .i64 v.1), (.int .i64 v.2.1), (.slice 2 1 (0) (0) none), (.int .i64 v.2.2.1), (.bool v.2.2.2.1)]), (.rows (Cd.pair (Cd.int .i64) (Cd.int .i64)) v.2.2.2.2 false)]) (S.rforget1 fu rw rg nw ov) :=
  (S.rforget1_k fu rw rg nw ov k).trans (arr_lift (S.rforget1_l0_v fu rw rg nw ov (contOf (C_rforget1 fu rw rg nw ov) G30 (bodyOf Try.f31) [1, 0, 1, 0] (retK tis F31 Try.f31 (List.length ([.var [.int .i64 rw, .int .i64 rg, .nils, .int .i64 nw, .bool ov]] : List Blk)) k)) fu) ((fun z => S.rforget1_a0_0_v fu rw rg nw ov k)))
def H31 : Hnd := fun R args σ k => match args, σ with
  | [.ptr 0 0 0], [.var [.int .i64 rw, .int .i64 rg, .slice 2 1 lo len none, .int .i64 nw, .bool ov], .rows (.pair (.int .i64) (.int .i64)) r false] => oK (fun v : Int × Int × Nat × Int × Bool × RL × List (Int × Int) => k (.tuple []) [(.var [(.int .i64 v.1), (.int .i64 v.2.1), (.slice 2 2 (0) v.2.2.1 none), (.int .i64 v.2.2.2.1), (.bool v.2.2.2.2.1)]), (.rows (Cd.pair (Cd.int .i64) (Cd.int .i64)) v.2.2.2.2.2.1 false), (.rows (Cd.pair (Cd.int .i64) (Cd.int .i64)) v.2.2.2.2.2.2 false)]) (S.rforget 100000 r lo len rw rg nw ov)
  | [.ptr 0 0 0], [.var [.int .i64 rw, .int .i64 rg, .nils, .int .i64 nw, .bool ov]] => oK (fun v : Int × Int × Int × Bool × List (Int × Int) => k (.tuple []) [(.var [(.int .i64 v.1), (.int .i64 v.2.1), (.slice 2 1 (0) (0) none), (.int .i64 v.2.2.1), (.bool v.2.2.2.1)]), (.rows (Cd.pair (Cd.int .i64) (Cd.int .i64)) v.2.2.2.2 false)]) (S.rforget1 100000 rw rg nw ov)
  | _, _ => none
theorem H31_ok : HndOk Try.prog 31 H31 := hnd_ok tis tisOk mixOk G30_ok F31 Try.func31 rfl (by
  intro R args σ k r h
  unfold H31 at h
  split at h
  · rename_i rw rg lo len nw ov r; exact ⟨100000, (S.rforget_v 100000 r lo len rw rg nw ov _).trans h⟩
  · rename_i rw rg nw ov; exact ⟨100000, (S.rforget1_v 100000 rw rg nw ov _).trans h⟩
  · cases h)
def G31 : Env := Env.add 31 H31 G30
theorem G31_ok : EnvOk Try.prog G31 := envAdd_ok H31_ok G30_ok

/-! (*spinnakerref5.Ring).Put -/
def F16 : FCfg := ⟨keepAt [(0, [0, 1, 2]), (1, [0, 1, 2, 16]), (2, [6]), (3, [0, 1, 2, 27]), (4, [6]), (5, [0, 1, 2]), (6, [0]), (7, []), (8, [6])], loopAt [], [⟨1, false, 0, [], 2, (.pair (.int .i64) (.int .i64)), none⟩, ⟨2, false, 0, [2], 0, .bool, none⟩]⟩
theorem S.rput_k {R : Type} (r : RL) (lo len : Nat) (rw rg nw : Int) (ov : Bool) (t v : Int) (k : AVal → List Blk → Option R) : fnEval tis F16 0 G31 Try.f16 [.ptr 0 0 0, .int .i64 t, .int .i64 v] [.var [.int .i64 rw, .int .i64 rg, .slice 2 1 lo len none, .int .i64 nw, .bool ov], .rows (.pair (.int .i64) (.int .i64)) r false] k =
  (bif decide (t < 0) then
    k (.int .i64 1) ([.var [.int .i64 rw, .int .i64 rg, .slice 2 2 lo len Option.none, .int .i64 nw, .bool ov], .dead, .rows (Cd.pair (Cd.int .i64) (Cd.int .i64)) r false])
  else
    bif decide (1099511627776 < t) then
      k (.int .i64 1) ([.var [.int .i64 rw, .int .i64 rg, .slice 2 2 lo len Option.none, .int .i64 nw, .bool ov], .dead, .rows (Cd.pair (Cd.int .i64) (Cd.int .i64)) r false])
    else
      bif decide (v < 0) then
        k (.int .i64 1) ([.var [.int .i64 rw, .int .i64 rg, .slice 2 2 lo len Option.none, .int .i64 nw, .bool ov], .dead, .rows (Cd.pair (Cd.int .i64) (Cd.int .i64)) r false])
      else
        (optK (S.rbucket r lo len rw rg nw ov t) fun o5 =>
          (optK (S.rN r lo len rw rg nw ov) fun o6 =>
            bif decide (o6 ≤ Go.IntKind.wrap .i64 (nw - o5)) then
              k (.int .i64 0) ([.var [.int .i64 rw, .int .i64 rg, .slice 2 2 lo len Option.none, .int .i64 nw, .bool ov], .dead, .rows (Cd.pair (Cd.int .i64) (Cd.int .i64)) r false])
            else
              (optK (S.rbucket r lo len rw rg nw ov t) fun o8 =>
                bif Nat.beq 2 2 && Nat.blt 0 16 && Nat.beq 2 2 && Nat.beq 2 2 && Nat.beq 2 2 && Nat.blt 0 1 && !Nat.beq 1 2 && Nat.ble ((len + 1) * 16) 35184372088832 then
                  (optK (S.rforget 100000 (cutL r lo len ++ cutL [(t, v)] 0 1) 0 (List.length (cutL r lo len ++ cutL [(t, v)] 0 1)) rw rg (if o8 > nw then o8 else nw) ov) fun o10 =>
                    k (.int .i64 0) ([.var [.int .i64 o10.1, .int .i64 o10.2.1, .slice 2 2 0 o10.2.2.1 Option.none, .int .i64 o10.2.2.2.1, .bool o10.2.2.2.2.1], .dead, .rows (Cd.pair (Cd.int .i64) (Cd.int .i64)) o10.2.2.2.2.2.2 false]))
                else
                  none)))) := by kernel_rfl
def S.rput (r : RL) (lo len : Nat) (rw rg nw : Int) (ov : Bool) (t v : Int) : Option (Int × Int × Int × Nat × Nat × Int × Bool × RL) :=
  bif decide (t < 0) then
    some (1, rw, rg, lo, len, nw, ov, r)
  else
    bif decide (1099511627776 < t) then
      some (1, rw, rg, lo, len, nw, ov, r)
    else
      bif decide (v < 0) then
        some (1, rw, rg, lo, len, nw, ov, r)
      else
        (optK (S.rbucket r lo len rw rg nw ov t) fun o5 =>
          (optK (S.rN r lo len rw rg nw ov) fun o6 =>
            bif decide (o6 ≤ Go.IntKind.wrap .i64 (nw - o5)) then
              some (0, rw, rg, lo, len, nw, ov, r)
            else
              (optK (S.rbucket r lo len rw rg nw ov t) fun o8 =>
                bif Nat.beq 2 2 && Nat.blt 0 16 && Nat.beq 2 2 && Nat.beq 2 2 && Nat.beq 2 2 && Nat.blt 0 1 && !Nat.beq 1 2 && Nat.ble ((len + 1) * 16) 35184372088832 then
                  (optK (S.rforget 100000 (cutL r lo len ++ cutL [(t, v)] 0 1) 0 (List.length (cutL r lo len ++ cutL [(t, v)] 0 1)) rw rg (if o8 > nw then o8 else nw) ov) fun o10 =>
                    some (0, o10.1, o10.2.1, 0, o10.2.2.1, o10.2.2.2.1, o10.2.2.2.2.1, o10.2.2.2.2.2.2))
                else
                  none)))
theorem S.rput_v {R : Type} (r : RL) (lo len : Nat) (rw rg nw : Int) (ov : Bool) (t v : Int) (k : AVal → List Blk → Option R) : fnEval tis F16 0 G31 Try.f16 [.ptr 0 0 0, .int .i64 t, .int .i64 v] [.var [.int .i64 rw, .int .i64 rg, .slice 2 1 lo len none, .int .i64 nw, .bool ov], .rows (.pair (.int .i64) (.int .i64)) r false] k = oK (fun v : Int × Int × Int × Nat × Nat × Int × Bool × RL => k (.int .i64 v.1) [(.var [(.int .i64 v.2.1), (.int .i64 v.2.2.1), (.slice 2 2 v.2.2.2.1 v.2.2.2.2.1 none), (.int .i64 v.2.2.2.2.2.1), (.bool v.2.2.2.2.2.2.1)]), .dead, (.rows (Cd.pair (Cd.int .i64) (Cd.int .i64)) v.2.2.2.2.2.2.2 false)]) (S.rput r lo len rw rg nw ov t v) :=
  (S.rput_k r lo len rw rg nw ov t v k).trans (bif_lift (f := (oK (fun v : Int × Int × Int × Nat × Nat × Int × Bool × RL => k (.int .i64 v.1) [(.var [(.int .i64 v.2.1), (.int .i64 v.2.2.1), (.slice 2 2 v.2.2.2.1 v.2.2.2.2.1 none), (.int .i64 v.2.2.2.2.2.1), (.bool v.2.2.2.2.2.2.1)]), .dead, (.rows (Cd.pair (Cd.int .i64) (Cd.int .i64)) v.2.2.2.2.2.2.2 false)]))) rfl (bif_lift (f := (oK (fun v : Int × Int × Int × Nat × Nat × Int × Bool × RL => k (.int .i64 v.1) [(.var [(.int .i64 v.2.1), (.int .i64 v.2.2.1), (.slice 2 2 v.2.2.2.1 v.2.2.2.2.1 none), (.int .i64 v.2.2.2.2.2.1), (.bool v.2.2.2.2.2.2.1)]), .dead, (.rows (Cd.pair (Cd.int .i64) (Cd.int .i64)) v.2.2.2.2.2.2.2 false)]))) rfl (bif_lift (f := (oK (fun v : Int × Int × Int × Nat × Nat × Int × Bool × RL => k (.int .i64 v.1) [(.var [(.int .i64 v.2.1), (.int .i64 v.2.2.1), (.slice 2 2 v.2.2.2.1 v.2.2.2.2.1 none), (.int .i64 v.2.2.2.2.2.1), (.bool v.2.2.2.2.2.2.1)]), .dead, (.rows (Cd.pair (Cd.int .i64) (Cd.int .i64)) v.2.2.2.2.2.2.2 false)]))) rfl (opt_lift fun o5 => (opt_lift fun o6 => (bif_lift (f := (oK (fun v : Int × Int × Int × Nat × Nat × Int × Bool × RL => k (.int .i64 v.1) [(.var [(.int .i64 v.2.1), (.int .i64 v.2.2.1), (.slice 2 2 v.2.2.2.1 v.2.2.2.2.1 none), (.int .i64 v.2.2.2.2.2.1), (.bool v.2.2.2.2.2.2.1)]), .dead, (.rows (Cd.pair (Cd.int .i64) (Cd.int .i64)) v.2.2.2.2.2.2.2 false)]))) rfl (opt_lift fun o8 => (bif_lift (f := (oK (fun v : Int × Int × Int × Nat × Nat × Int × Bool × RL => k (.int .i64 v.1) [(.var [(.int .i64 v.2.1), (.int .i64 v.2.2.1), (.slice 2 2 v.2.2.2.1 v.2.2.2.2.1 none), (.int .i64 v.2.2.2.2.2.1), (.bool v.2.2.2.2.2.2.1)]), .dead, (.rows (Cd.pair (Cd.int .i64) (Cd.int .i64)) v.2.2.2.2.2.2.2 false)]))) (opt_lift fun o10 => rfl) rfl))))))))
theorem S.rput1_k {R : Type} (rw rg nw : Int) (ov : Bool) (t v : Int) (k : AVal → List Blk → Option R) : fnEval tis F16 0 G31 Try.f16 [.ptr 0 0 0, .int .i64 t, .int .i64 v] [.var [.int .i64 rw, .int .i64 rg, .nils, .int .i64 nw, .bool ov]] k =
  (bif decide (t < 0) then
    k (.int .i64 1) ([.var [.int .i64 rw, .int .i64 rg, .slice 2 1 0 0 Option.none, .int .i64 nw, .bool ov], .rows (Cd.pair (Cd.int .i64) (Cd.int .i64)) [] false])
  else
    bif decide (1099511627776 < t) then
      k (.int .i64 1) ([.var [.int .i64 rw, .int .i64 rg, .slice 2 1 0 0 Option.none, .int .i64 nw, .bool ov], .rows (Cd.pair (Cd.int .i64) (Cd.int .i64)) [] false])
    else
      bif decide (v < 0) then
        k (.int .i64 1) ([.var [.int .i64 rw, .int .i64 rg, .slice 2 1 0 0 Option.none, .int .i64 nw, .bool ov], .rows (Cd.pair (Cd.int .i64) (Cd.int .i64)) [] false])
      else
        (optK (S.rbucket1 rw rg nw ov t) fun o5 =>
          (optK (S.rN1 rw rg nw ov) fun o6 =>
            bif decide (o6 ≤ Go.IntKind.wrap .i64 (nw - o5)) then
              k (.int .i64 0) ([.var [.int .i64 rw, .int .i64 rg, .slice 2 1 0 0 Option.none, .int .i64 nw, .bool ov], .rows (Cd.pair (Cd.int .i64) (Cd.int .i64)) [] false])
            else
              (optK (S.rbucket1 rw rg nw ov t) fun o8 =>
                (optK (S.rforget 100000 ([] ++ cutL [(t, v)] 0 1) 0 1 rw rg (if o8 > nw then o8 else nw) ov) fun o9 =>
                  k (.int .i64 0) ([.var [.int .i64 o9.1, .int .i64 o9.2.1, .slice 2 1 0 o9.2.2.1 Option.none, .int .i64 o9.2.2.2.1, .bool o9.2.2.2.2.1], .rows (Cd.pair (Cd.int .i64) (Cd.int .i64)) o9.2.2.2.2.2.2 false])))))) := by kernel_rfl
def S.rput1 (rw rg nw : Int) (ov : Bool) (t v : Int) : Option (Int × Int × Int × Nat × Int × Bool × List (Int × Int)) :=
  bif decide (t < 0) then
    some (1, rw, rg, 0, nw, ov, [])
  else
    bif decide (1099511627776 < t) then
      some (1, rw, rg, 0, nw, ov, [])
    else
      bif decide (v < 0) then
        some (1, rw, rg, 0, nw, ov, [])
      else
        (optK (S.rbucket1 rw rg nw ov t) fun o5 =>
          (optK (S.rN1 rw rg nw ov) fun o6 =>
            bif decide (o6 ≤ Go.IntKind.wrap .i64 (nw - o5)) then
              some (0, rw, rg, 0, nw, ov, [])
            else
              (optK (S.rbucket1 rw rg nw ov t) fun o8 =>
                (optK (S.rforget 100000 ([] ++ cutL [(t, v)] 0 1) 0 1 rw rg (if o8 > nw then o8 else nw) ov) fun o9 =>
                  some (0, o9.1, o9.2.1, o9.2.2.1, o9.2.2.2.1, o9.2.2.2.2.1, o9.2.2.2.2.2.2)))))
theorem S.rput1_v {R : Type} (rw rg nw : Int) (ov : Bool) (t v : Int) (k : AVal → List Blk → Option R) : fnEval tis F16 0 G31 Try.f16 [.ptr 0 0 0, .int .i64 t, .int .i64 v] [.var [.int .i64 rw, .int .i64 rg, .nils, .int .i64 nw, .bool ov]] k = oK (fun v : Int × Int × Int × Nat × Int × Bool × List (Int × Int) => k (.int .i64 v.1) [(.var [(.int .i64 v.2.1), (.int .i64 v.2.2.1), (.slice 2 1 (0) v.2.2.2.1 none), (.int .i64 v.2.2.2.2.1), (.bool v.2.2.2.2.2.1)]), (.rows (Cd.pair (Cd.int .i64) (Cd.int .i64)) v.2.2.2.2.2.2 false)]) (S.rput1 rw rg nw ov t v) :=
  (S.rput1_k rw rg nw ov t v k).trans (bif_lift (f := (oK (fun v : Int × Int × Int × Nat × Int × Bool × List (Int × Int) => k (.int .i64 v.1) [(.var [(.int .i64 v.2.1), (.int .i64 v.2.2.1), (.slice 2 1 (0) v.2.2.2.1 none), (.int .i64 v.2.2.2.2.1), (.bool v.2.2.2.2.2.1)]), (.rows (Cd.pair (Cd.int .i64) (Cd.int .i64)) v.2.2.2.2.2.2 false)]))) rfl (bif_lift (f := (oK (fun v : Int × Int × Int × Nat × Int × Bool × List (Int × Int) => k (.int .i64 v.1) [(.var [(.int .i64 v.2.1), (.int .i64 v.2.2.1), (.slice 2 1 (0) v.2.2.2.1 none), (.int .i64 v.2.2.2.2.1), (.bool v.2.2.2.2.2.1)]), (.rows (Cd.pair (Cd.int .i64) (Cd.int .i64)) v.2.2.2.2.2.2 false)]))) rfl (bif_lift (f := (oK (fun v : Int × Int × Int × Nat × Int × Bool × List (Int × Int) => k (.int .i64 v.1) [(.var [(.int .i64 v.2.1), (.int .i64 v.2.2.1), (.slice 2 1 (0) v.2.2.2.1 none), (.int .i64 v.2.2.2.2.1), (.bool v.2.2.2.2.2.1)]), (.rows (Cd.pair (Cd.int .i64) (Cd.int .i64)) v.2.2.2.2.2.2 false)]))) rfl (opt_lift fun o5 => (opt_lift fun o6 => (bif_lift (f := (oK (fun v : Int × Int × Int × Nat × Int × Bool × List (Int × Int) => k (.int .i64 v.1) [(.var [(.int .i64 v.2.1), (.int .i64 v.2.2.1), (.slice 2 1 (0) v.2.2.2.1 none), (.int .i64 v.2.2.2.2.1), (.bool v.2.2.2.2.2.1)]), (.rows (Cd.pair (Cd.int .i64) (Cd.int .i64)) v.2.2.2.2.2.2 false)]))) rfl (opt_lift fun o8 => (opt_lift fun o9 => rfl))))))))
def H16 : Hnd := fun R args σ k => match args, σ with
  | [.ptr 0 0 0, .int .i64 t, .int .i64 v], [.var [.int .i64 rw, .int .i64 rg, .slice 2 1 lo len none, .int .i64 nw, .bool ov], .rows (.pair (.int .i64) (.int .i64)) r false] => oK (fun v : Int × Int × Int × Nat × Nat × Int × Bool × RL => k (.int .i64 v.1) [(.var [(.int .i64 v.2.1), (.int .i64 v.2.2.1), (.slice 2 2 v.2.2.2.1 v.2.2.2.2.1 none), (.int .i64 v.2.2.2.2.2.1), (.bool v.2.2.2.2.2.2.1)]), .dead, (.rows (Cd.pair (Cd.int .i64) (Cd.int .i64)) v.2.2.2.2.2.2.2 false)]) (S.rput r lo len rw rg nw ov t v)
  | [.ptr 0 0 0, .int .i64 t, .int .i64 v], [.var [.int .i64 rw, .int .i64 rg, .nils, .int .i64 nw, .bool ov]] => oK (fun v : Int × Int × Int × Nat × Int × Bool × List (Int × Int) => k (.int .i64 v.1) [(.var [(.int .i64 v.2.1), (.int .i64 v.2.2.1), (.slice 2 1 (0) v.2.2.2.1 none), (.int .i64 v.2.2.2.2.1), (.bool v.2.2.2.2.2.1)]), (.rows (Cd.pair (Cd.int .i64) (Cd.int .i64)) v.2.2.2.2.2.2 false)]) (S.rput1 rw rg nw ov t v)
  | _, _ => none
theorem H16_ok : HndOk Try.prog 16 H16 := hnd_ok tis tisOk mixOk G31_ok F16 Try.func16 rfl (by
  intro R args σ k r h
  unfold H16 at h
  split at h
  · rename_i t v rw rg lo len nw ov r; exact ⟨0, (S.rput_v r lo len rw rg nw ov t v _).trans h⟩
  · rename_i t v rw rg nw ov; exact ⟨0, (S.rput1_v rw rg nw ov t v _).trans h⟩
  · cases h)
def G16 : Env := Env.add 16 H16 G31
theorem G16_ok : EnvOk Try.prog G16 := envAdd_ok H16_ok G31_ok

/-! (*spinnakerref5.Ring).Sum -/
def F17 : FCfg := ⟨keepAt [(0, [0, 1]), (1, [0, 1, 6, 7]), (2, [0, 1, 6, 7, 8]), (3, [0, 1, 6, 7, 8, 22]), (4, [0, 1, 6, 7, 8]), (5, [0, 1, 6, 7, 8, 9]), (6, [0, 1, 6, 7, 8, 46]), (7, [0, 1, 7, 8, 10, 11]), (8, [0, 1, 7, 8, 10]), (9, [0, 1, 6, 7, 8]), (10, [4, 5])], loopAt [(3, [0, 1, 6, 7, 8], [])], []⟩
noncomputable def C_rsum (fu : Nat) (r : RL) (lo len : Nat) (rw rg nw : Int) (ov : Bool) (t : Int) : Cfg := Cfg.of tis F17 fu (List.length ([.var [.int .i64 rw, .int .i64 rg, .slice 2 1 lo len none, .int .i64 nw, .bool ov], .rows (.pair (.int .i64) (.int .i64)) r false] : List Blk)) Try.f17.ntmps
noncomputable def S.rsum_b0 : Code := codeAt (bodyOf Try.f17) [1, 1, 0, 1, 0, 0]
noncomputable def S.rsum_s0 (r : RL) (lo len : Nat) (rw rg nw : Int) (ov : Bool) (t : Int) (y0 : Int) (y1 : Int) (y2 : Int) (y3 : Bool) : St := ⟨[(0, (.ptr 0 (0) 0)), (1, (.int .i64 (t))), (6, (.int .i64 (y0))), (7, (.int .i64 (y1))), (8, (.int .i64 (y2)))], [(.var [(.int .i64 (rw)), (.int .i64 (rg)), (.slice 2 1 (lo) (len) none), (.int .i64 (nw)), (.bool (y3))]), (.rows (Cd.pair (Cd.int .i64) (Cd.int .i64)) (r) false)]⟩
noncomputable def S.rsum_x0_0 (r : RL) (lo len : Nat) (rw rg nw : Int) (ov : Bool) (t : Int) (z0 : Int) (z1 : Int) (z2 : Int) (z3 : Bool) (z4 : Bool) : St := ⟨[(0, (.ptr 0 (0) 0)), (1, (.int .i64 (t))), (6, (.int .i64 (z0))), (7, (.int .i64 (z1))), (8, (.int .i64 (z2))), (22, (.bool (z3)))], [(.var [(.int .i64 (rw)), (.int .i64 (rg)), (.slice 2 1 (lo) (len) none), (.int .i64 (nw)), (.bool (z4))]), (.rows (Cd.pair (Cd.int .i64) (Cd.int .i64)) (r) false)]⟩
noncomputable def S.rsum_g0 {R : Type} (r : RL) (lo len : Nat) (rw rg nw : Int) (ov : Bool) (t : Int) (K : Ex → St → Option R) : ((Int × Int × Int × Bool × Bool)) → Option R := (fun z : Int × Int × Int × Bool × Bool => K (Ex.exit 0) (S.rsum_x0_0 r lo len rw rg nw ov t (z.1) (z.2.1) (z.2.2.1) (z.2.2.2.1) (z.2.2.2.2)))
noncomputable def S.rsum_gk {R : Type} (r : RL) (lo len : Nat) (rw rg nw : Int) (ov : Bool) (t : Int) (k : AVal → List Blk → Option R) : (Int × Int × Int × Int × Nat × Nat × Int × Bool × RL) → Option R := (fun v : Int × Int × Int × Int × Nat × Nat × Int × Bool × RL => k (.tuple [(.int .i64 v.1), (.int .i64 v.2.1)]) [(.var [(.int .i64 v.2.2.1), (.int .i64 v.2.2.2.1), (.slice 2 1 v.2.2.2.2.1 v.2.2.2.2.2.1 none), (.int .i64 v.2.2.2.2.2.2.1), (.bool v.2.2.2.2.2.2.2.1)]), (.rows (Cd.pair (Cd.int .i64) (Cd.int .i64)) v.2.2.2.2.2.2.2.2 false)])
theorem S.rsum_l0_k {R : Type} (fu : Nat) (r : RL) (lo len : Nat) (rw rg nw : Int) (ov : Bool) (t : Int) (n : Nat) (K : Ex → St → Option R) (y0 : Int) (y1 : Int) (y2 : Int) (y3 : Bool) : loopRun (C_rsum fu r lo len rw rg nw ov t) G16 S.rsum_b0 (n + 1) (S.rsum_s0 r lo len rw rg nw ov t (y0) (y1) (y2) (y3)) K =
  (bif decide (y2 < ((len : Nat) : Int)) then
    bif decide (0 ≤ t) then
      (optK (S.rbucket r lo len rw rg nw y3 t) fun o4 =>
        bif inB y2 len then
          (optK (r[Int.toNat y2 + lo]?) fun o6 =>
            (optK (S.rbucket r lo len rw rg nw y3 o6.1) fun o7 =>
              bif decide (Go.IntKind.wrap .i64 (o4 - o7) < 0) then
                loopRun (C_rsum fu r lo len rw rg nw ov t) G16 S.rsum_b0 n (S.rsum_s0 r lo len rw rg nw ov t (y0) (y1) (Go.IntKind.wrap .i64 (y2 + 1)) (y3)) K
              else
                (optK (S.rN r lo len rw rg nw y3) fun o9 =>
                  bif decide (o9 ≤ Go.IntKind.wrap .i64 (o4 - o7)) then
                    loopRun (C_rsum fu r lo len rw rg nw ov t) G16 S.rsum_b0 n (S.rsum_s0 r lo len rw rg nw ov t (y0) (y1) (Go.IntKind.wrap .i64 (y2 + 1)) (y3)) K
                  else
                    bif inB y2 len then
                      (optK (r[Int.toNat y2 + lo]?) fun o12 =>
                        bif y3 then
                          loopRun (C_rsum fu r lo len rw rg nw ov t) G16 S.rsum_b0 n (S.rsum_s0 r lo len rw rg nw ov t (Prod.fst (S.radd y0 o12.2)) (Go.IntKind.wrap .i64 (y1 + 1)) (Go.IntKind.wrap .i64 (y2 + 1)) (true)) K
                        else
                          loopRun (C_rsum fu r lo len rw rg nw ov t) G16 S.rsum_b0 n (S.rsum_s0 r lo len rw rg nw ov t (Prod.fst (S.radd y0 o12.2)) (Go.IntKind.wrap .i64 (y1 + 1)) (Go.IntKind.wrap .i64 (y2 + 1)) (!decide (Prod.snd (S.radd y0 o12.2) = 0))) K)
                    else
                      none)))
        else
          none)
    else
      K (Ex.exit 0) (S.rsum_x0_0 r lo len rw rg nw ov t (y0) (y1) (y2) (decide (0 ≤ t)) (y3))
  else
    K (Ex.exit 0) (S.rsum_x0_0 r lo len rw rg nw ov t (y0) (y1) (y2) (false) (y3))) := by kernel_rfl
def S.rsum_l0 (fu : Nat) (r : RL) (lo len : Nat) (rw rg nw : Int) (ov : Bool) (t : Int) : Nat → (Int) → (Int) → (Int) → (Bool) → Option ((Int × Int × Int × Bool × Bool))
  | 0, _, _, _, _ => none
  | n + 1, y0, y1, y2, y3 =>
    bif decide (y2 < ((len : Nat) : Int)) then
      bif decide (0 ≤ t) then
        (optK (S.rbucket r lo len rw rg nw y3 t) fun o4 =>
          bif inB y2 len then
            (optK (r[Int.toNat y2 + lo]?) fun o6 =>
              (optK (S.rbucket r lo len rw rg nw y3 o6.1) fun o7 =>
                bif decide (Go.IntKind.wrap .i64 (o4 - o7) < 0) then
                  (S.rsum_l0 fu r lo len rw rg nw ov t n) (y0) (y1) (Go.IntKind.wrap .i64 (y2 + 1)) (y3)
                else
                  (optK (S.rN r lo len rw rg nw y3) fun o9 =>
                    bif decide (o9 ≤ Go.IntKind.wrap .i64 (o4 - o7)) then
                      (S.rsum_l0 fu r lo len rw rg nw ov t n) (y0) (y1) (Go.IntKind.wrap .i64 (y2 + 1)) (y3)
                    else
                      bif inB y2 len then
                        (optK (r[Int.toNat y2 + lo]?) fun o12 =>
                          bif y3 then
                            (S.rsum_l0 fu r lo len rw rg nw ov t n) (Prod.fst (S.radd y0 o12.2)) (Go.IntKind.wrap .i64 (y1 + 1)) (Go.IntKind.wrap .i64 (y2 + 1)) (true)
                          else
                            (S.rsum_l0 fu r lo len rw rg nw ov t n) (Prod.fst (S.radd y0 o12.2)) (Go.IntKind.wrap .i64 (y1 + 1)) (Go.IntKind.wrap .i64 (y2 + 1)) (!decide (Prod.snd (S.radd y0 o12.2) = 0)))
                      else
                        none)))
          else
            none)
      else
        some (y0, y1, y2, decide (0 ≤ t), y3)
    else
      some (y0, y1, y2, false, y3)
theorem S.rsum_l0_v {R : Type} (fu : Nat) (r : RL) (lo len : Nat) (rw rg nw : Int) (ov : Bool) (t : Int) (K : Ex → St → Option R) : ∀ (n : Nat) (y0 : Int) (y1 : Int) (y2 : Int) (y3 : Bool), loopRun (C_rsum fu r lo len rw rg nw ov t) G16 S.rsum_b0 n (S.rsum_s0 r lo len rw rg nw ov t (y0) (y1) (y2) (y3)) K = oK (β := (Int × Int × Int × Bool × Bool)) (S.rsum_g0 r lo len rw rg nw ov t K) (S.rsum_l0 fu r lo len rw rg nw ov t n y0 y1 y2 y3)
  | 0, _, _, _, _ => rfl
  | n + 1, y0, y1, y2, y3 => (S.rsum_l0_k fu r lo len rw rg nw ov t n K y0 y1 y2 y3).trans (bif_lift (f := (oK (β := (Int × Int × Int × Bool × Bool)) (S.rsum_g0 r lo len rw rg nw ov t K))) (bif_lift (f := (oK (β := (Int × Int × Int × Bool × Bool)) (S.rsum_g0 r lo len rw rg nw ov t K))) (opt_lift fun o4 => (bif_lift (f := (oK (β := (Int × Int × Int × Bool × Bool)) (S.rsum_g0 r lo len rw rg nw ov t K))) (opt_lift fun o6 => (opt_lift fun o7 => (bif_lift (f := (oK (β := (Int × Int × Int × Bool × Bool)) (S.rsum_g0 r lo len rw rg nw ov t K))) (S.rsum_l0_v fu r lo len rw rg nw ov t K n (y0) (y1) (Go.IntKind.wrap .i64 (y2 + 1)) (y3)) (opt_lift fun o9 => (bif_lift (f := (oK (β := (Int × Int × Int × Bool × Bool)) (S.rsum_g0 r lo len rw rg nw ov t K))) (S.rsum_l0_v fu r lo len rw rg nw ov t K n (y0) (y1) (Go.IntKind.wrap .i64 (y2 + 1)) (y3)) (bif_lift (f := (oK (β := (Int × Int × Int × Bool × Bool)) (S.rsum_g0 r lo len rw rg nw ov t K))) (opt_lift fun o12 => (bif_lift (f := (oK (β := (Int × Int × Int × Bool × Bool)) (S.rsum_g0 r lo len rw rg nw ov t K))) (S.rsum_l0_v fu r lo len rw rg nw ov t K n (Prod.fst (S.radd y0 o12.2)) (Go.IntKind.wrap .i64 (y1 + 1)) (Go.IntKind.wrap .i64 (y2 + 1)) (true)) (S.rsum_l0_v fu r lo len rw rg nw ov t K n (Prod.fst (S.radd y0 o12.2)) (Go.IntKind.wrap .i64 (y1 + 1)) (Go.IntKind.wrap .i64 (y2 + 1)) (!decide (Prod.snd (S.radd y0 o12.2) = 0))))) rfl)))))) rfl)) rfl) rfl)
theorem S.rsum_a0_0_k {R : Type} (fu : Nat) (r : RL) (lo len : Nat) (rw rg nw : Int) (ov : Bool) (t : Int) (z0 : Int) (z1 : Int) (z2 : Int) (z3 : Bool) (z4 : Bool) (k : AVal → List Blk → Option R) : contOf (C_rsum fu r lo len rw rg nw ov t) G16 (bodyOf Try.f17) [1, 1, 0, 1, 0] (retK tis F17 Try.f17 (List.length ([.var [.int .i64 rw, .int .i64 rg, .slice 2 1 lo len none, .int .i64 nw, .bool ov], .rows (.pair (.int .i64) (.int .i64)) r false] : List Blk)) k) (Ex.exit 0) (S.rsum_x0_0 r lo len rw rg nw ov t (z0) (z1) (z2) (z3) (z4)) =
  (k (.tuple [.int .i64 z0, .int .i64 z1]) ([.var [.int .i64 rw, .int .i64 rg, .slice 2 1 lo len Option.none, .int .i64 nw, .bool z4], .rows (Cd.pair (Cd.int .i64) (Cd.int .i64)) r false])) := by kernel_rfl
def S.rsum_a0_0 (fu : Nat) (r : RL) (lo len : Nat) (rw rg nw : Int) (ov : Bool) (t : Int) (z0 : Int) (z1 : Int) (z2 : Int) (z3 : Bool) (z4 : Bool) : Option (Int × Int × Int × Int × Nat × Nat × Int × Bool × RL) :=
  some (z0, z1, rw, rg, lo, len, nw, z4, r)
theorem S.rsum_a0_0_v {R : Type} (fu : Nat) (r : RL) (lo len : Nat) (rw rg nw : Int) (ov : Bool) (t : Int) (z0 : Int) (z1 : Int) (z2 : Int) (z3 : Bool) (z4 : Bool) (k : AVal → List Blk → Option R) : contOf (C_rsum fu r lo len rw rg nw ov t) G16 (bodyOf Try.f17) [1, 1, 0, 1, 0] (retK tis F17 Try.f17 (List.length ([.var [.int .i64 rw, .int .i64 rg, .slice 2 1 lo len none, .int .i64 nw, .bool ov], .rows (.pair (.int .i64) (.int .i64)) r false] : List Blk)) k) (Ex.exit 0) (S.rsum_x0_0 r lo len rw rg nw ov t (z0) (z1) (z2) (z3) (z4)) = oK (S.rsum_gk r lo len rw rg nw ov t k) (S.rsum_a0_0 fu r lo len rw rg nw ov t z0 z1 z2 z3 z4) :=
  (S.rsum_a0_0_k fu r lo len rw rg nw ov t z0 z1 z2 z3 z4 k).trans rfl
theorem S.rsum_k {R : Type} (fu : Nat) (r : RL) (lo len : Nat) (rw rg nw : Int) (ov : Bool) (t : Int) (k : AVal → List Blk → Option R) : fnEval tis F17 fu G16 Try.f17 [.ptr 0 0 0, .int .i64 t] [.var [.int .i64 rw, .int .i64 rg, .slice 2 1 lo len none, .int .i64 nw, .bool ov], .rows (.pair (.int .i64) (.int .i64)) r false] k =
  (loopRun (C_rsum fu r lo len rw rg nw ov t) G16 S.rsum_b0 fu (S.rsum_s0 r lo len rw rg nw ov t (0) (0) (0) (ov)) (contOf (C_rsum fu r lo len rw rg nw ov t) G16 (bodyOf Try.f17) [1, 1, 0, 1, 0] (retK tis F17 Try.f17 (List.length ([.var [.int .i64 rw, .int .i64 rg, .slice 2 1 lo len none, .int .i64 nw, .bool ov], .rows (.pair (.int .i64) (.int .i64)) r false] : List Blk)) k))) := by kernel_rfl
def S.rsum (fu : Nat) (r : RL) (lo len : Nat) (rw rg nw : Int) (ov : Bool) (t : Int) : Option (Int × Int × Int × Int × Nat × Nat × Int × Bool × RL) :=
  optK (S.rsum_l0 fu r lo len rw rg nw ov t fu (0) (0) (0) (ov)) (fun z : Int × Int × Int × Bool × Bool => S.rsum_a0_0 fu r lo len rw rg nw ov t (z.1) (z.2.1) (z.2.2.1) (z.2.2.2.1) (z.2.2.2.2))
theorem S.rsum_v {R : Type} (fu : Nat) (r : RL) (lo len : Nat) (rw rg nw : Int) (ov : Bool) (t : Int) (k : AVal → List Blk → Option R) : fnEval tis F17 fu G16 Try.f17 [.ptr 0 0 0, .int .i64 t] [.var [.int .i64 rw, .int .i64 rg, .slice 2 1 lo len none, .int .i64 nw, .bool ov], .rows (.pair (.int .i64) (.int .i64)) r false] k = oK (fun v : Int × Int × Int × Int × Nat × Nat × Int × Bool × RL => k (.tuple [(.int .i64 v.1), (.int .i64 v.2.1)]) [(.var [(.int .i64 v.2.2.1), (.int .i64 v.2.2.2.1), (.slice 2 1 v.2.2.2.2.1 v.2.2.2.2.2.1 none), (.int .i64 v.2.2.2.2.2.2.1), (.bool v.2.2.2.2.2.2.2.1)]), (.rows (Cd.pair (Cd.int .i64) (Cd.int .i64)) v.2.2.2.2.2.2.2.2 false)]) (S.rsum fu r lo len rw rg nw ov t) :=
  (S.rsum_k fu r lo len rw rg nw ov t k).trans (arr_lift (S.rsum_l0_v fu r lo len rw rg nw ov t (contOf (C_rsum fu r lo len rw rg nw ov t) G16 (bodyOf Try.f17) [1, 1, 0, 1, 0] (retK tis F17 Try.f17 (List.length ([.var [.int .i64 rw, .int .i64 rg, .slice 2 1 lo len none, .int .i64 nw, .bool ov], .rows (.pair (.int .i64) (.int .i64)) r false] : List Blk)) k)) fu (0) (0) (0) (ov)) ((fun z => S.rsum_a0_0_v fu r lo len rw rg nw ov t (z.1) (z.2.1) (z.2.2.1) (z.2.2.2.1) (z.2.2.2.2) k)))
noncomputable def C_rsum1 (fu : Nat) (rw rg nw : Int) (ov : Bool) (t : Int) : Cfg := Cfg.of tis F17 fu (List.length ([.var [.int .i64 rw, .int .i64 rg, .nils, .int .i64 nw, .bool ov]] : List Blk)) Try.f17.ntmps
noncomputable def S.rsum1_b0 : Code := codeAt (bodyOf Try.f17) [1, 1, 0, 1, 0, 0]
noncomputable def S.rsum1_s0 (rw rg nw : Int) (ov : Bool) (t : Int)  : St := ⟨[(0, (.ptr 0 (0) 0)), (1, (.int .i64 (t))), (6, (.int .i64 (0))), (7, (.int .i64 (0))), (8, (.int .i64 (0)))], [(.var [(.int .i64 (rw)), (.int .i64 (rg)), .nils, (.int .i64 (nw)), (.bool (ov))])]⟩
noncomputable def S.rsum1_x0_0 (rw rg nw : Int) (ov : Bool) (t : Int)  : St := ⟨[(0, (.ptr 0 (0) 0)), (1, (.int .i64 (t))), (6, (.int .i64 (0))), (7, (.int .i64 (0))), (8, (.int .i64 (0))), (22, (.bool (false)))], [(.var [(.int .i64 (rw)), (.int .i64 (rg)), .nils, (.int .i64 (nw)), (.bool (ov))])]⟩
noncomputable def S.rsum1_g0 {R : Type} (rw rg nw : Int) (ov : Bool) (t : Int) (K : Ex → St → Option R) : ((Unit)) → Option R := (fun z : Unit => K (Ex.exit 0) (S.rsum1_x0_0 rw rg nw ov t))
noncomputable def S.rsum1_gk {R : Type} (rw rg nw : Int) (ov : Bool) (t : Int) (k : AVal → List Blk → Option R) : (Int × Int × Int × Int × Int × Bool) → Option R := (fun v : Int × Int × Int × Int × Int × Bool => k (.tuple [(.int .i64 v.1), (.int .i64 v.2.1)]) [(.var [(.int .i64 v.2.2.1), (.int .i64 v.2.2.2.1), .nils, (.int .i64 v.2.2.2.2.1), (.bool v.2.2.2.2.2)])])
theorem S.rsum1_l0_k {R : Type} (fu : Nat) (rw rg nw : Int) (ov : Bool) (t : Int) (n : Nat) (K : Ex → St → Option R)  : loopRun (C_rsum1 fu rw rg nw ov t) G16 S.rsum1_b0 (n + 1) (S.rsum1_s0 rw rg nw ov t) K =
  (K (Ex.exit 0) (S.rsum1_x0_0 rw rg nw ov t)) := by kernel_rfl
def S.rsum1_l0 (fu : Nat) (rw rg nw : Int) (ov : Bool) (t : Int) : Nat → Option ((Unit))
  | 0 => none
  | n + 1 =>
    some ()
theorem S.rsum1_l0_v {R : Type} (fu : Nat) (rw rg nw : Int) (ov : Bool) (t : Int) (K : Ex → St → Option R) : ∀ (n : Nat) , loopRun (C_rsum1 fu rw rg nw ov t) G16 S.rsum1_b0 n (S.rsum1_s0 rw rg nw ov t) K = oK (β := (Unit)) (S.rsum1_g0 rw rg nw ov t K) (S.rsum1_l0 fu rw rg nw ov t n)
  | 0 => rfl
  | n + 1 => (S.rsum1_l0_k fu rw rg nw ov t n K).trans rfl
theorem S.rsum1_a0_0_k {R : Type} (fu : Nat) (rw rg nw : Int) (ov : Bool) (t : Int)  (k : AVal → List Blk → Option R) : contOf (C_rsum1 fu rw rg nw ov t) G16 (bodyOf Try.f17) [1, 1, 0, 1, 0] (retK tis F17 Try.f17 (List.length ([.var [.int .i64 rw, .int .i64 rg, .nils, .int .i64 nw, .bool ov]] : List Blk)) k) (Ex.exit 0) (S.rsum1_x0_0 rw rg nw ov t) =
  (k (.tuple [.int .i64 0, .int .i64 0]) ([.var [.int .i64 rw, .int .i64 rg, .nils, .int .i64 nw, .bool ov]])) := by kernel_rfl
def S.rsum1_a0_0 (fu : Nat) (rw rg nw : Int) (ov : Bool) (t : Int)  : Option (Int × Int × Int × Int × Int × Bool) :=
  some (0, 0, rw, rg, nw, ov)
theorem S.rsum1_a0_0_v {R : Type} (fu : Nat) (rw rg nw : Int) (ov : Bool) (t : Int)  (k : AVal → List Blk → Option R) : contOf (C_rsum1 fu rw rg nw ov t) G16 (bodyOf Try.f17) [1, 1, 0, 1, 0] (retK tis F17 Try.f17 (List.length ([.var [.int .i64 rw, .int .i64 rg, .nils, .int .i64 nw, .bool ov]] : List Blk)) k) (Ex.exit 0) (S.rsum1_x0_0 rw rg nw ov t) = oK (S.rsum1_gk rw rg nw ov t k) (S.rsum1_a0_0 fu rw rg nw ov t) :=
  (S.rsum1_a0_0_k fu rw rg nw ov t k).trans rfl
theorem S.rsum1_k {R : Type} (fu : Nat) (rw rg nw : Int) (ov : Bool) (t : Int) (k : AVal → List Blk → Option R) : fnEval tis F17 fu G16 Try.f17 [.ptr 0 0 0, .int .i64 t] [.var [.int .i64 rw, .int .i64 rg, .nils, .int .i64 nw, .bool ov]] k =
  (loopRun (C_rsum1 fu rw rg nw ov t) G16 S.rsum1_b0 fu (S.rsum1_s0 rw rg nw ov t) (contOf (C_rsum1 fu rw rg nw ov t) G16 (bodyOf Try.f17) [1, 1, 0, 1, 0] (retK tis F17 Try.f17 (List.length ([.var [.int .i64 rw, .int .i64 rg, .nils, .int .i64 nw, .bool ov]] : List Blk)) k))) := by kernel_rfl
def S.rsum1 (fu : Nat) (rw rg nw : Int) (ov : Bool) (t : Int) : Option (Int × Int × Int × Int × Int × Bool) :=
  optK (S.rsum1_l0 fu rw rg nw ov t fu) (fun z : Unit => S.rsum1_a0_0 fu rw rg nw ov t)
theorem S.rsum1_v {R : Type} (fu : Nat) (rw rg nw : Int) (ov : Bool) (t : Int) (k : AVal → List Blk → Option R) : fnEval tis F17 fu G16 Try.f17 [.ptr 0 0 0, .int .i64 t] [.var [.int .i64 rw, .int .i64 rg, .nils, .int .i64 nw, .bool ov]] k = oK (fun v : Int × Int × Int × Int × Int × Bool => k (.tuple [(.int .i64 v.1), (.int .i64 v.2.1)]) [(.var [(.int .i64 v.2.2.1), (.int .i64 v.2.2.2.1), .nils, (.int .i64 v.2.2.2.2.1), (.bool v.2.2.2.2.2)])]) (S.rsum1 fu rw rg nw ov t) :=
  (S.rsum1_k fu rw rg nw ov t k).trans (arr_lift (S.rsum1_l0_v fu rw rg nw ov t (contOf (C_rsum1 fu rw rg nw ov t) G16 (bodyOf Try.f17) [1, 1, 0, 1, 0] (retK tis F17 Try.f17 (List.length ([.var [.int .i64 rw, .int .i64 rg, .nils, .int .i64 nw, .bool ov]] : List Blk)) k)) fu) ((fun z => S.rsum1_a0_0_v fu rw rg nw ov t k)))
def H17 : Hnd := fun R args σ k => match args, σ with
  | [.ptr 0 0 0, .int .i64 t], [.var [.int .i64 rw, .int .i64 rg, .slice 2 1 lo len none, .int .i64 nw, .bool ov], .rows (.pair (.int .i64) (.int .i64)) r false] => oK (fun v : Int × Int × Int × Int × Nat × Nat × Int × Bool × RL => k (.tuple [(.int .i64 v.1), (.int .i64 v.2.1)]) [(.var [(.int .i64 v.2.2.1), (.int .i64 v.2.2.2.1), (.slice 2 1 v.2.2.2.2.1 v.2.2.2.2.2.1 none), (.int .i64 v.2.2.2.2.2.2.1), (.bool v.2.2.2.2.2.2.2.1)]), (.rows (Cd.pair (Cd.int .i64) (Cd.int .i64)) v.2.2.2.2.2.2.2.2 false)]) (S.rsum 100000 r lo len rw rg nw ov t)
  | [.ptr 0 0 0, .int .i64 t], [.var [.int .i64 rw, .int .i64 rg, .nils, .int .i64 nw, .bool ov]] => oK (fun v : Int × Int × Int × Int × Int × Bool => k (.tuple [(.int .i64 v.1), (.int .i64 v.2.1)]) [(.var [(.int .i64 v.2.2.1), (.int .i64 v.2.2.2.1), .nils, (.int .i64 v.2.2.2.2.1), (.bool v.2.2.2.2.2)])]) (S.rsum1 100000 rw rg nw ov t)
  | _, _ => none
theorem H17_ok : HndOk Try.prog 17 H17 := hnd_ok tis tisOk mixOk G16_ok F17 Try.func17 rfl (by
  intro R args σ k r h
  unfold H17 at h
  split at h
  · rename_i t rw rg lo len nw ov r; exact ⟨100000, (S.rsum_v 100000 r lo len rw rg nw ov t _).trans h⟩
  · rename_i t rw rg nw ov; exact ⟨100000, (S.rsum1_v 100000 rw rg nw ov t _).trans h⟩
  · cases h)
def G17 : Env := Env.add 17 H17 G16
theorem G17_ok : EnvOk Try.prog G17 := envAdd_ok H17_ok G16_ok

/-! (*spinnakerref5.Ring).Mean -/
def F19 : FCfg := ⟨keepAt [(0, [0, 1]), (1, [5, 6]), (2, [5, 6, 14]), (3, [4]), (4, [4])], loopAt [], []⟩
theorem S.rmean_k {R : Type} (r : RL) (lo len : Nat) (rw rg nw : Int) (ov : Bool) (t : Int) (k : AVal → List Blk → Option R) : fnEval tis F19 0 G17 Try.f19 [.ptr 0 0 0, .int .i64 t] [.var [.int .i64 rw, .int .i64 rg, .slice 2 1 lo len none, .int .i64 nw, .bool ov], .rows (.pair (.int .i64) (.int .i64)) r false] k =
  ((optK (S.rsum 100000 r lo len rw rg nw ov t) fun o2 =>
    bif decide (o2.2.1 = 0) then
      k (.int .i64 0) ([.var [.int .i64 o2.2.2.1, .int .i64 o2.2.2.2.1, .slice 2 1 o2.2.2.2.2.1 o2.2.2.2.2.2.1 Option.none, .int .i64 o2.2.2.2.2.2.2.1, .bool o2.2.2.2.2.2.2.2.1], .rows (Cd.pair (Cd.int .i64) (Cd.int .i64)) o2.2.2.2.2.2.2.2.2 false])
    else
      bif decide (o2.2.1 = 0) then
        none
      else
        k (.int .i64 (Go.IntKind.wrap .i64 (Int.tdiv o2.1 o2.2.1))) ([.var [.int .i64 o2.2.2.1, .int .i64 o2.2.2.2.1, .slice 2 1 o2.2.2.2.2.1 o2.2.2.2.2.2.1 Option.none, .int .i64 o2.2.2.2.2.2.2.1, .bool o2.2.2.2.2.2.2.2.1], .rows (Cd.pair (Cd.int .i64) (Cd.int .i64)) o2.2.2.2.2.2.2.2.2 false]))) := by kernel_rfl
def S.rmean (r : RL) (lo len : Nat) (rw rg nw : Int) (ov : Bool) (t : Int) : Option (Int × Int × Int × Nat × Nat × Int × Bool × List (Int × Int)) :=
  (optK (S.rsum 100000 r lo len rw rg nw ov t) fun o2 =>
    bif decide (o2.2.1 = 0) then
      some (0, o2.2.2.1, o2.2.2.2.1, o2.2.2.2.2.1, o2.2.2.2.2.2.1, o2.2.2.2.2.2.2.1, o2.2.2.2.2.2.2.2.1, o2.2.2.2.2.2.2.2.2)
    else
      bif decide (o2.2.1 = 0) then
        none
      else
        some (Go.IntKind.wrap .i64 (Int.tdiv o2.1 o2.2.1), o2.2.2.1, o2.2.2.2.1, o2.2.2.2.2.1, o2.2.2.2.2.2.1, o2.2.2.2.2.2.2.1, o2.2.2.2.2.2.2.2.1, o2.2.2.2.2.2.2.2.2))
theorem S.rmean_v {R : Type} (r : RL) (lo len : Nat) (rw rg nw : Int) (ov : Bool) (t : Int) (k : AVal → List Blk → Option R) : fnEval tis F19 0 G17 Try.f19 [.ptr 0 0 0, .int .i64 t] [.var [.int .i64 rw, .int .i64 rg, .slice 2 1 lo len none, .int .i64 nw, .bool ov], .rows (.pair (.int .i64) (.int .i64)) r false] k = oK (fun v : Int × Int × Int × Nat × Nat × Int × Bool × List (Int × Int) => k (.int .i64 v.1) [(.var [(.int .i64 v.2.1), (.int .i64 v.2.2.1), (.slice 2 1 v.2.2.2.1 v.2.2.2.2.1 none), (.int .i64 v.2.2.2.2.2.1), (.bool v.2.2.2.2.2.2.1)]), (.rows (Cd.pair (Cd.int .i64) (Cd.int .i64)) v.2.2.2.2.2.2.2 false)]) (S.rmean r lo len rw rg nw ov t) :=
  (S.rmean_k r lo len rw rg nw ov t k).trans (opt_lift fun o2 => (bif_lift (f := (oK (fun v : Int × Int × Int × Nat × Nat × Int × Bool × List (Int × Int) => k (.int .i64 v.1) [(.var [(.int .i64 v.2.1), (.int .i64 v.2.2.1), (.slice 2 1 v.2.2.2.1 v.2.2.2.2.1 none), (.int .i64 v.2.2.2.2.2.1), (.bool v.2.2.2.2.2.2.1)]), (.rows (Cd.pair (Cd.int .i64) (Cd.int .i64)) v.2.2.2.2.2.2.2 false)]))) rfl (bif_lift (f := (oK (fun v : Int × Int × Int × Nat × Nat × Int × Bool × List (Int × Int) => k (.int .i64 v.1) [(.var [(.int .i64 v.2.1), (.int .i64 v.2.2.1), (.slice 2 1 v.2.2.2.1 v.2.2.2.2.1 none), (.int .i64 v.2.2.2.2.2.1), (.bool v.2.2.2.2.2.2.1)]), (.rows (Cd.pair (Cd.int .i64) (Cd.int .i64)) v.2.2.2.2.2.2.2 false)]))) rfl rfl)))
theorem S.rmean1_k {R : Type} (rw rg nw : Int) (ov : Bool) (t : Int) (k : AVal → List Blk → Option R) : fnEval tis F19 0 G17 Try.f19 [.ptr 0 0 0, .int .i64 t] [.var [.int .i64 rw, .int .i64 rg, .nils, .int .i64 nw, .bool ov]] k =
  (k (.int .i64 0) ([.var [.int .i64 rw, .int .i64 rg, .nils, .int .i64 nw, .bool ov]])) := by kernel_rfl
def S.rmean1 (rw rg nw : Int) (ov : Bool) (t : Int) : Int × Int × Int × Int × Bool :=
  (0, rw, rg, nw, ov)
theorem S.rmean1_v {R : Type} (rw rg nw : Int) (ov : Bool) (t : Int) (k : AVal → List Blk → Option R) : fnEval tis F19 0 G17 Try.f19 [.ptr 0 0 0, .int .i64 t] [.var [.int .i64 rw, .int .i64 rg, .nils, .int .i64 nw, .bool ov]] k = k (.int .i64 (S.rmean1 rw rg nw ov t).1) [(.var [(.int .i64 (S.rmean1 rw rg nw ov t).2.1), (.int .i64 (S.rmean1 rw rg nw ov t).2.2.1), .nils, (.int .i64 (S.rmean1 rw rg nw ov t).2.2.2.1), (.bool (S.rmean1 rw rg nw ov t).2.2.2.2)])] :=
  (S.rmean1_k rw rg nw ov t k).trans rfl
def H19 : Hnd := fun R args σ k => match args, σ with
  | [.ptr 0 0 0, .int .i64 t], [.var [.int .i64 rw, .int .i64 rg, .slice 2 1 lo len none, .int .i64 nw, .bool ov], .rows (.pair (.int .i64) (.int .i64)) r false] => oK (fun v : Int × Int × Int × Nat × Nat × Int × Bool × List (Int × Int) => k (.int .i64 v.1) [(.var [(.int .i64 v.2.1), (.int .i64 v.2.2.1), (.slice 2 1 v.2.2.2.1 v.2.2.2.2.1 none), (.int .i64 v.2.2.2.2.2.1), (.bool v.2.2.2.2.2.2.1)]), (.rows (Cd.pair (Cd.int .i64) (Cd.int .i64)) v.2.2.2.2.2.2.2 false)]) (S.rmean r lo len rw rg nw ov t)
  | [.ptr 0 0 0, .int .i64 t], [.var [.int .i64 rw, .int .i64 rg, .nils, .int .i64 nw, .bool ov]] => k (.int .i64 (S.rmean1 rw rg nw ov t).1) [(.var [(.int .i64 (S.rmean1 rw rg nw ov t).2.1), (.int .i64 (S.rmean1 rw rg nw ov t).2.2.1), .nils, (.int .i64 (S.rmean1 rw rg nw ov t).2.2.2.1), (.bool (S.rmean1 rw rg nw ov t).2.2.2.2)])]
  | _, _ => none
theorem H19_ok : HndOk Try.prog 19 H19 := hnd_ok tis tisOk mixOk G17_ok F19 Try.func19 rfl (by
  intro R args σ k r h
  unfold H19 at h
  split at h
  · rename_i t rw rg lo len nw ov r; exact ⟨0, (S.rmean_v r lo len rw rg nw ov t _).trans h⟩
  · rename_i t rw rg nw ov; exact ⟨0, (S.rmean1_v rw rg nw ov t _).trans h⟩
  · cases h)
def G19 : Env := Env.add 19 H19 G17
theorem G19_ok : EnvOk Try.prog G19 := envAdd_ok H19_ok G17_ok

/-! (*spinnakerref5.Ring).Resize -/
def F21 : FCfg := ⟨keepAt [(0, [0, 1]), (1, [0, 1, 14]), (2, [4]), (3, [0]), (4, []), (5, [4])], loopAt [], [⟨1, false, 0, [], 2, (.pair (.int .i64) (.int .i64)), none⟩, ⟨2, false, 0, [2], 0, .bool, none⟩, ⟨3, false, 1, [], 0, .bool, none⟩]⟩
theorem S.rresize_k {R : Type} (r : RL) (lo len : Nat) (rw rg nw : Int) (ov : Bool) (w : Int) (k : AVal → List Blk → Option R) : fnEval tis F21 0 G19 Try.f21 [.ptr 0 0 0, .int .i64 w] [.var [.int .i64 rw, .int .i64 rg, .slice 2 1 lo len none, .int .i64 nw, .bool ov], .rows (.pair (.int .i64) (.int .i64)) r false] k =
  (bif decide (w < rg) then
    k (.int .i64 1) ([.var [.int .i64 rw, .int .i64 rg, .slice 2 2 lo len Option.none, .int .i64 nw, .bool ov], .dead, .rows (Cd.pair (Cd.int .i64) (Cd.int .i64)) r false])
  else
    bif decide (600 < w) then
      k (.int .i64 1) ([.var [.int .i64 rw, .int .i64 rg, .slice 2 2 lo len Option.none, .int .i64 nw, .bool ov], .dead, .rows (Cd.pair (Cd.int .i64) (Cd.int .i64)) r false])
    else
      (optK (S.rforget 100000 r lo len w rg nw ov) fun o4 =>
        k (.int .i64 0) ([.var [.int .i64 o4.1, .int .i64 o4.2.1, .slice 2 2 0 o4.2.2.1 Option.none, .int .i64 o4.2.2.2.1, .bool o4.2.2.2.2.1], .dead, .rows (Cd.pair (Cd.int .i64) (Cd.int .i64)) o4.2.2.2.2.2.2 false]))) := by kernel_rfl
def S.rresize (r : RL) (lo len : Nat) (rw rg nw : Int) (ov : Bool) (w : Int) : Option (Int × Int × Int × Nat × Nat × Int × Bool × RL) :=
  bif decide (w < rg) then
    some (1, rw, rg, lo, len, nw, ov, r)
  else
    bif decide (600 < w) then
      some (1, rw, rg, lo, len, nw, ov, r)
    else
      (optK (S.rforget 100000 r lo len w rg nw ov) fun o4 =>
        some (0, o4.1, o4.2.1, 0, o4.2.2.1, o4.2.2.2.1, o4.2.2.2.2.1, o4.2.2.2.2.2.2))
theorem S.rresize_v {R : Type} (r : RL) (lo len : Nat) (rw rg nw : Int) (ov : Bool) (w : Int) (k : AVal → List Blk → Option R) : fnEval tis F21 0 G19 Try.f21 [.ptr 0 0 0, .int .i64 w] [.var [.int .i64 rw, .int .i64 rg, .slice 2 1 lo len none, .int .i64 nw, .bool ov], .rows (.pair (.int .i64) (.int .i64)) r false] k = oK (fun v : Int × Int × Int × Nat × Nat × Int × Bool × RL => k (.int .i64 v.1) [(.var [(.int .i64 v.2.1), (.int .i64 v.2.2.1), (.slice 2 2 v.2.2.2.1 v.2.2.2.2.1 none), (.int .i64 v.2.2.2.2.2.1), (.bool v.2.2.2.2.2.2.1)]), .dead, (.rows (Cd.pair (Cd.int .i64) (Cd.int .i64)) v.2.2.2.2.2.2.2 false)]) (S.rresize r lo len rw rg nw ov w) :=
  (S.rresize_k r lo len rw rg nw ov w k).trans (bif_lift (f := (oK (fun v : Int × Int × Int × Nat × Nat × Int × Bool × RL => k (.int .i64 v.1) [(.var [(.int .i64 v.2.1), (.int .i64 v.2.2.1), (.slice 2 2 v.2.2.2.1 v.2.2.2.2.1 none), (.int .i64 v.2.2.2.2.2.1), (.bool v.2.2.2.2.2.2.1)]), .dead, (.rows (Cd.pair (Cd.int .i64) (Cd.int .i64)) v.2.2.2.2.2.2.2 false)]))) rfl (bif_lift (f := (oK (fun v : Int × Int × Int × Nat × Nat × Int × Bool × RL => k (.int .i64 v.1) [(.var [(.int .i64 v.2.1), (.int .i64 v.2.2.1), (.slice 2 2 v.2.2.2.1 v.2.2.2.2.1 none), (.int .i64 v.2.2.2.2.2.1), (.bool v.2.2.2.2.2.2.1)]), .dead, (.rows (Cd.pair (Cd.int .i64) (Cd.int .i64)) v.2.2.2.2.2.2.2 false)]))) rfl (opt_lift fun o4 => rfl)))
theorem S.rresize1_k {R : Type} (rw rg nw : Int) (ov : Bool) (w : Int) (k : AVal → List Blk → Option R) : fnEval tis F21 0 G19 Try.f21 [.ptr 0 0 0, .int .i64 w] [.var [.int .i64 rw, .int .i64 rg, .nils, .int .i64 nw, .bool ov]] k =
  (bif decide (w < rg) then
    k (.int .i64 1) ([.var [.int .i64 rw, .int .i64 rg, .slice 2 1 0 0 Option.none, .int .i64 nw, .bool ov], .rows (Cd.pair (Cd.int .i64) (Cd.int .i64)) [] false])
  else
    bif decide (600 < w) then
      k (.int .i64 1) ([.var [.int .i64 rw, .int .i64 rg, .slice 2 1 0 0 Option.none, .int .i64 nw, .bool ov], .rows (Cd.pair (Cd.int .i64) (Cd.int .i64)) [] false])
    else
      k (.int .i64 0) ([.var [.int .i64 w, .int .i64 rg, .slice 2 1 0 0 Option.none, .int .i64 nw, .bool ov], .rows (Cd.pair (Cd.int .i64) (Cd.int .i64)) [] false])) := by kernel_rfl
def S.rresize1 (rw rg nw : Int) (ov : Bool) (w : Int) : Int × Int × Int × Int × Bool × List (Int × Int) :=
  bif decide (w < rg) then
    (1, rw, rg, nw, ov, [])
  else
    bif decide (600 < w) then
      (1, rw, rg, nw, ov, [])
    else
      (0, w, rg, nw, ov, [])
theorem S.rresize1_v {R : Type} (rw rg nw : Int) (ov : Bool) (w : Int) (k : AVal → List Blk → Option R) : fnEval tis F21 0 G19 Try.f21 [.ptr 0 0 0, .int .i64 w] [.var [.int .i64 rw, .int .i64 rg, .nils, .int .i64 nw, .bool ov]] k = k (.int .i64 (S.rresize1 rw rg nw ov w).1) [(.var [(.int .i64 (S.rresize1 rw rg nw ov w).2.1), (.int .i64 (S.rresize1 rw rg nw ov w).2.2.1), (.slice 2 1 (0) (0) none), (.int .i64 (S.rresize1 rw rg nw ov w).2.2.2.1), (.bool (S.rresize1 rw rg nw ov w).2.2.2.2.1)]), (.rows (Cd.pair (Cd.int .i64) (Cd.int .i64)) (S.rresize1 rw rg nw ov w).2.2.2.2.2 false)] :=
  (S.rresize1_k rw rg nw ov w k).trans (bif_lift (f := (fun v : Int × Int × Int × Int × Bool × List (Int × Int) => k (.int .i64 v.1) [(.var [(.int .i64 v.2.1), (.int .i64 v.2.2.1), (.slice 2 1 (0) (0) none), (.int .i64 v.2.2.2.1), (.bool v.2.2.2.2.1)]), (.rows (Cd.pair (Cd.int .i64) (Cd.int .i64)) v.2.2.2.2.2 false)])) rfl (bif_lift (f := (fun v : Int × Int × Int × Int × Bool × List (Int × Int) => k (.int .i64 v.1) [(.var [(.int .i64 v.2.1), (.int .i64 v.2.2.1), (.slice 2 1 (0) (0) none), (.int .i64 v.2.2.2.1), (.bool v.2.2.2.2.1)]), (.rows (Cd.pair (Cd.int .i64) (Cd.int .i64)) v.2.2.2.2.2 false)])) rfl rfl))
def H21 : Hnd := fun R args σ k => match args, σ with
  | [.ptr 0 0 0, .int .i64 w], [.var [.int .i64 rw, .int .i64 rg, .slice 2 1 lo len none, .int .i64 nw, .bool ov], .rows (.pair (.int .i64) (.int .i64)) r false] => oK (fun v : Int × Int × Int × Nat × Nat × Int × Bool × RL => k (.int .i64 v.1) [(.var [(.int .i64 v.2.1), (.int .i64 v.2.2.1), (.slice 2 2 v.2.2.2.1 v.2.2.2.2.1 none), (.int .i64 v.2.2.2.2.2.1), (.bool v.2.2.2.2.2.2.1)]), .dead, (.rows (Cd.pair (Cd.int .i64) (Cd.int .i64)) v.2.2.2.2.2.2.2 false)]) (S.rresize r lo len rw rg nw ov w)
  | [.ptr 0 0 0, .int .i64 w], [.var [.int .i64 rw, .int .i64 rg, .nils, .int .i64 nw, .bool ov]] => k (.int .i64 (S.rresize1 rw rg nw ov w).1) [(.var [(.int .i64 (S.rresize1 rw rg nw ov w).2.1), (.int .i64 (S.rresize1 rw rg nw ov w).2.2.1), (.slice 2 1 (0) (0) none), (.int .i64 (S.rresize1 rw rg nw ov w).2.2.2.1), (.bool (S.rresize1 rw rg nw ov w).2.2.2.2.1)]), (.rows (Cd.pair (Cd.int .i64) (Cd.int .i64)) (S.rresize1 rw rg nw ov w).2.2.2.2.2 false)]
  | _, _ => none
theorem H21_ok : HndOk Try.prog 21 H21 := hnd_ok tis tisOk mixOk G19_ok F21 Try.func21 rfl (by
  intro R args σ k r h
  unfold H21 at h
  split at h
  · rename_i w rw rg lo len nw ov r; exact ⟨0, (S.rresize_v r lo len rw rg nw ov w _).trans h⟩
  · rename_i w rw rg nw ov; exact ⟨0, (S.rresize1_v rw rg nw ov w _).trans h⟩
  · cases h)
def G21 : Env := Env.add 21 H21 G19
theorem G21_ok : EnvOk Try.prog G21 := envAdd_ok H21_ok G19_ok
end Go.Proofs.Ytmgnfjiogfcieaa.AB
