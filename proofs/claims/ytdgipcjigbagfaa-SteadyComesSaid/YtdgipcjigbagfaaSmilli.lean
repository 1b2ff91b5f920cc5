/- The program's functions of layer 1 that are used, as plain functions. -/
import Derived.Test.YtdgipcjigbagfaaSdiv
namespace Go.Proofs.Ytdgipcjigbagfaa.AB
set_option linter.unusedVariables false
abbrev FL : Type := List (Option Nat)
abbrev BL : Type := List (Int × Int × Int × Bool)
abbrev WL : Type := List (Option (Int × Int))
abbrev RL : Type := List (Int × Int)
instance (k : IntKind) (n : Nat) : OfNat (Cd.El (.int k)) n := inferInstanceAs (OfNat Int n)

/-! milli.Add -/
def F85 : FCfg := ⟨keepAt [(0, [0, 1]), (1, [0, 1, 23]), (2, [4, 5]), (3, [4, 5])], loopAt [], []⟩
theorem S.madd_k {R : Type} (a b : Int) (k : AVal → List Blk → Option R) : fnEval tis F85 0 G92 Try.f85 [.int .i64 a, .int .i64 b] [] k =
  (bif decide (0 < b) then
   bif decide (Go.IntKind.wrap .i64 (9223372036854775807 - b) < a) then
   k (.tuple [.int .i64 (Prod.fst (S.mend (decide (0 < b)))), .int .i64 (Prod.snd (S.mend (decide (0 < b))))]) ([])
 else
   bif decide (b < 0) then
   bif decide (a < Go.IntKind.wrap .i64 (-9223372036854775808 - b)) then
   k (.tuple [.int .i64 (Prod.fst (S.mend (decide (0 < b)))), .int .i64 (Prod.snd (S.mend (decide (0 < b))))]) ([])
 else
   k (.tuple [.int .i64 (Go.IntKind.wrap .i64 (a + b)), .int .i64 0]) ([])
 else
   k (.tuple [.int .i64 (Go.IntKind.wrap .i64 (a + b)), .int .i64 0]) ([])
 else
   bif decide (b < 0) then
   bif decide (a < Go.IntKind.wrap .i64 (-9223372036854775808 - b)) then
   k (.tuple [.int .i64 (Prod.fst (S.mend (decide (0 < b)))), .int .i64 (Prod.snd (S.mend (decide (0 < b))))]) ([])
 else
   k (.tuple [.int .i64 (Go.IntKind.wrap .i64 (a + b)), .int .i64 0]) ([])
 else
   k (.tuple [.int .i64 (Go.IntKind.wrap .i64 (a + b)), .int .i64 0]) ([])) := by kernel_rfl
def S.madd (a b : Int) : Int × Int :=
  bif decide (0 < b) then
   bif decide (Go.IntKind.wrap .i64 (9223372036854775807 - b) < a) then
   (Prod.fst (S.mend (decide (0 < b))), Prod.snd (S.mend (decide (0 < b))))
 else
   bif decide (b < 0) then
   bif decide (a < Go.IntKind.wrap .i64 (-9223372036854775808 - b)) then
   (Prod.fst (S.mend (decide (0 < b))), Prod.snd (S.mend (decide (0 < b))))
 else
   (Go.IntKind.wrap .i64 (a + b), 0)
 else
   (Go.IntKind.wrap .i64 (a + b), 0)
 else
   bif decide (b < 0) then
   bif decide (a < Go.IntKind.wrap .i64 (-9223372036854775808 - b)) then
   (Prod.fst (S.mend (decide (0 < b))), Prod.snd (S.mend (decide (0 < b))))
 else
   (Go.IntKind.wrap .i64 (a + b), 0)
 else
   (Go.IntKind.wrap .i64 (a + b), 0)
noncomputable def S.madd_gk {R : Type} (a b : Int) (k : AVal → List Blk → Option R) : (Int × Int) → Option R := (fun v : Int × Int => k (.tuple [(.int .i64 v.1), (.int .i64 v.2)]) [])
theorem S.madd_v {R : Type} (a b : Int) (k : AVal → List Blk → Option R) : fnEval tis F85 0 G92 Try.f85 [.int .i64 a, .int .i64 b] [] k = k (.tuple [(.int .i64 (S.madd a b).1), (.int .i64 (S.madd a b).2)]) [] :=
  (S.madd_k a b k).trans (bif_lift (f := (S.madd_gk a b k)) (bif_lift (f := (S.madd_gk a b k)) rfl (bif_lift (f := (S.madd_gk a b k)) (bif_lift (f := (S.madd_gk a b k)) rfl rfl) rfl)) (bif_lift (f := (S.madd_gk a b k)) (bif_lift (f := (S.madd_gk a b k)) rfl rfl) rfl))
def H85 : Hnd := fun R args σ k => match args, σ with
  | [.int .i64 a, .int .i64 b], [] => k (.tuple [(.int .i64 (S.madd a b).1), (.int .i64 (S.madd a b).2)]) []
  | _, _ => none
theorem H85_ok : HndOk Try.prog 85 H85 := hnd_ok tis tisOk mixOk G92_ok F85 Try.func85 rfl (by
  intro R args σ k r h
  unfold H85 at h
  split at h
  · rename_i a b; exact ⟨0, (S.madd_v a b _).trans h⟩
  · cases h)
def G85 : Env := Env.add 85 H85 G92
theorem G85_ok : EnvOk Try.prog G85 := envAdd_ok H85_ok G92_ok

/-! milli.far -/
def F91 : FCfg := ⟨keepAt [(0, [0]), (1, [0, 4]), (2, [2]), (3, [2])], loopAt [], []⟩
theorem S.far_k {R : Type} (a : Int) (k : AVal → List Blk → Option R) : fnEval tis F91 0 G85 Try.f91 [.int .i64 a] [] k =
  (bif decide (a < 0) then
   k (.int .u64 (Go.IntKind.wrap .u64 (0 - Go.IntKind.wrap .u64 a))) ([])
 else
   k (.int .u64 (Go.IntKind.wrap .u64 a)) ([])) := by kernel_rfl
def S.far (a : Int) : Int :=
  bif decide (a < 0) then
   (Go.IntKind.wrap .u64 (0 - Go.IntKind.wrap .u64 a))
 else
   (Go.IntKind.wrap .u64 a)
noncomputable def S.far_gk {R : Type} (a : Int) (k : AVal → List Blk → Option R) : (Int) → Option R := (fun v : Int => k (.int .u64 v) [])
theorem S.far_v {R : Type} (a : Int) (k : AVal → List Blk → Option R) : fnEval tis F91 0 G85 Try.f91 [.int .i64 a] [] k = k (.int .u64 (S.far a)) [] :=
  (S.far_k a k).trans (bif_lift (f := (S.far_gk a k)) rfl rfl)
def H91 : Hnd := fun R args σ k => match args, σ with
  | [.int .i64 a], [] => k (.int .u64 (S.far a)) []
  | _, _ => none
theorem H91_ok : HndOk Try.prog 91 H91 := hnd_ok tis tisOk mixOk G85_ok F91 Try.func91 rfl (by
  intro R args σ k r h
  unfold H91 at h
  split at h
  · rename_i a; exact ⟨0, (S.far_v a _).trans h⟩
  · cases h)
def G91 : Env := Env.add 91 H91 G85
theorem G91_ok : EnvOk Try.prog G91 := envAdd_ok H91_ok G85_ok

/-! milli.Mul -/
def F80 : FCfg := ⟨keepAt [(0, [0, 1]), (1, [0, 1, 6]), (2, [6, 7, 8]), (3, [6, 7, 8, 25]), (4, [4, 5]), (5, [6, 9, 10]), (6, [9, 10, 39]), (7, [9, 41]), (8, [4, 5]), (9, [4, 5]), (10, [9, 10, 49]), (11, [9, 10]), (12, [9, 61]), (13, [4, 5]), (14, [4, 5])], loopAt [], []⟩
theorem S.mmul_k {R : Type} (a b : Int) (k : AVal → List Blk → Option R) : fnEval tis F80 0 G91 Try.f80 [.int .i64 a, .int .i64 b] [] k =
  (bif decide (1000 ≤ Prod.fst (S.mul64 (S.far a) (S.far b))) then
   k (.tuple [.int .i64 (Prod.fst (S.mend !!decide (a < 0) == decide (b < 0))), .int .i64 (Prod.snd (S.mend !!decide (a < 0) == decide (b < 0)))]) ([])
 else
   (optK (S.div64 100000 (Prod.fst (S.mul64 (S.far a) (S.far b))) (Prod.snd (S.mul64 (S.far a) (S.far b))) 1000) fun o3 =>
   bif !!decide (a < 0) == decide (b < 0) then
   bif decide (9223372036854775807 < o3.1) then
   k (.tuple [.int .i64 9223372036854775807, .int .i64 2]) ([])
 else
   k (.tuple [.int .i64 (Go.IntKind.wrap .i64 o3.1), .int .i64 0]) ([])
 else
   bif decide (0 < o3.2) then
   bif decide (9223372036854775808 < Go.IntKind.wrap .u64 (o3.1 + 1)) then
   k (.tuple [.int .i64 (-9223372036854775808), .int .i64 2]) ([])
 else
   bif decide (0 < o3.2) then
   bif decide (Go.IntKind.wrap .u64 (o3.1 + 1) = 0) then
   k (.tuple [.int .i64 (-9223372036854775808), .int .i64 2]) ([])
 else
   k (.tuple [.int .i64 (Go.IntKind.wrap .i64 (0 - Go.IntKind.wrap .i64 (Go.IntKind.wrap .u64 (o3.1 + 1)))), .int .i64 0]) ([])
 else
   k (.tuple [.int .i64 (Go.IntKind.wrap .i64 (0 - Go.IntKind.wrap .i64 (Go.IntKind.wrap .u64 (o3.1 + 1)))), .int .i64 0]) ([])
 else
   bif decide (9223372036854775808 < o3.1) then
   k (.tuple [.int .i64 (-9223372036854775808), .int .i64 2]) ([])
 else
   bif decide (0 < o3.2) then
   bif decide (o3.1 = 0) then
   k (.tuple [.int .i64 (-9223372036854775808), .int .i64 2]) ([])
 else
   k (.tuple [.int .i64 (Go.IntKind.wrap .i64 (0 - Go.IntKind.wrap .i64 o3.1)), .int .i64 0]) ([])
 else
   k (.tuple [.int .i64 (Go.IntKind.wrap .i64 (0 - Go.IntKind.wrap .i64 o3.1)), .int .i64 0]) ([]))) := by kernel_rfl
def S.mmul (a b : Int) : Option (Int × Int) :=
  bif decide (1000 ≤ Prod.fst (S.mul64 (S.far a) (S.far b))) then
   some (Prod.fst (S.mend !!decide (a < 0) == decide (b < 0)), Prod.snd (S.mend !!decide (a < 0) == decide (b < 0)))
 else
   (optK (S.div64 100000 (Prod.fst (S.mul64 (S.far a) (S.far b))) (Prod.snd (S.mul64 (S.far a) (S.far b))) 1000) fun o3 =>
   bif !!decide (a < 0) == decide (b < 0) then
   bif decide (9223372036854775807 < o3.1) then
   some (9223372036854775807, 2)
 else
   some (Go.IntKind.wrap .i64 o3.1, 0)
 else
   bif decide (0 < o3.2) then
   bif decide (9223372036854775808 < Go.IntKind.wrap .u64 (o3.1 + 1)) then
   some (-9223372036854775808, 2)
 else
   bif decide (0 < o3.2) then
   bif decide (Go.IntKind.wrap .u64 (o3.1 + 1) = 0) then
   some (-9223372036854775808, 2)
 else
   some (Go.IntKind.wrap .i64 (0 - Go.IntKind.wrap .i64 (Go.IntKind.wrap .u64 (o3.1 + 1))), 0)
 else
   some (Go.IntKind.wrap .i64 (0 - Go.IntKind.wrap .i64 (Go.IntKind.wrap .u64 (o3.1 + 1))), 0)
 else
   bif decide (9223372036854775808 < o3.1) then
   some (-9223372036854775808, 2)
 else
   bif decide (0 < o3.2) then
   bif decide (o3.1 = 0) then
   some (-9223372036854775808, 2)
 else
   some (Go.IntKind.wrap .i64 (0 - Go.IntKind.wrap .i64 o3.1), 0)
 else
   some (Go.IntKind.wrap .i64 (0 - Go.IntKind.wrap .i64 o3.1), 0))
noncomputable def S.mmul_gk {R : Type} (a b : Int) (k : AVal → List Blk → Option R) : (Int × Int) → Option R := (fun v : Int × Int => k (.tuple [(.int .i64 v.1), (.int .i64 v.2)]) [])
theorem S.mmul_v {R : Type} (a b : Int) (k : AVal → List Blk → Option R) : fnEval tis F80 0 G91 Try.f80 [.int .i64 a, .int .i64 b] [] k = oK (fun v : Int × Int => k (.tuple [(.int .i64 v.1), (.int .i64 v.2)]) []) (S.mmul a b) :=
  (S.mmul_k a b k).trans (bif_lift (f := (oK (S.mmul_gk a b k))) rfl (opt_lift fun o3 => (bif_lift (f := (oK (S.mmul_gk a b k))) (bif_lift (f := (oK (S.mmul_gk a b k))) rfl rfl) (bif_lift (f := (oK (S.mmul_gk a b k))) (bif_lift (f := (oK (S.mmul_gk a b k))) rfl (bif_lift (f := (oK (S.mmul_gk a b k))) (bif_lift (f := (oK (S.mmul_gk a b k))) rfl rfl) rfl)) (bif_lift (f := (oK (S.mmul_gk a b k))) rfl (bif_lift (f := (oK (S.mmul_gk a b k))) (bif_lift (f := (oK (S.mmul_gk a b k))) rfl rfl) rfl))))))
def H80 : Hnd := fun R args σ k => match args, σ with
  | [.int .i64 a, .int .i64 b], [] => oK (fun v : Int × Int => k (.tuple [(.int .i64 v.1), (.int .i64 v.2)]) []) (S.mmul a b)
  | _, _ => none
theorem H80_ok : HndOk Try.prog 80 H80 := hnd_ok tis tisOk mixOk G91_ok F80 Try.func80 rfl (by
  intro R args σ k r h
  unfold H80 at h
  split at h
  · rename_i a b; exact ⟨0, (S.mmul_v a b _).trans h⟩
  · cases h)
def G80 : Env := Env.add 80 H80 G91
theorem G80_ok : EnvOk Try.prog G80 := envAdd_ok H80_ok G91_ok

/-! milli.half -/
def F79 : FCfg := ⟨keepAt [(0, [0, 1]), (1, [0, 1, 6]), (2, [4, 5]), (3, [0, 1, 9]), (4, [4, 5]), (5, [4, 5])], loopAt [], []⟩
theorem S.mhalf_k {R : Type} (a b : Int) (k : AVal → List Blk → Option R) : fnEval tis F79 0 G80 Try.f79 [.int .i64 a, .int .i64 b] [] k =
  (bif decide (b = 0) then
   k (.tuple [.int .i64 0, .int .i64 3]) ([])
 else
   bif decide (a = -9223372036854775808) then
   bif decide (b = -1) then
   k (.tuple [.int .i64 9223372036854775807, .int .i64 2]) ([])
 else
   bif decide (b = 0) then
   none
 else
   k (.tuple [.int .i64 (Go.IntKind.wrap .i64 (Int.tdiv a b)), .int .i64 0]) ([])
 else
   bif decide (b = 0) then
   none
 else
   k (.tuple [.int .i64 (Go.IntKind.wrap .i64 (Int.tdiv a b)), .int .i64 0]) ([])) := by kernel_rfl
def S.mhalf (a b : Int) : Option (Int × Int) :=
  bif decide (b = 0) then
   some (0, 3)
 else
   bif decide (a = -9223372036854775808) then
   bif decide (b = -1) then
   some (9223372036854775807, 2)
 else
   bif decide (b = 0) then
   none
 else
   some (Go.IntKind.wrap .i64 (Int.tdiv a b), 0)
 else
   bif decide (b = 0) then
   none
 else
   some (Go.IntKind.wrap .i64 (Int.tdiv a b), 0)
noncomputable def S.mhalf_gk {R : Type} (a b : Int) (k : AVal → List Blk → Option R) : (Int × Int) → Option R := (fun v : Int × Int => k (.tuple [(.int .i64 v.1), (.int .i64 v.2)]) [])
theorem S.mhalf_v {R : Type} (a b : Int) (k : AVal → List Blk → Option R) : fnEval tis F79 0 G80 Try.f79 [.int .i64 a, .int .i64 b] [] k = oK (fun v : Int × Int => k (.tuple [(.int .i64 v.1), (.int .i64 v.2)]) []) (S.mhalf a b) :=
  (S.mhalf_k a b k).trans (bif_lift (f := (oK (S.mhalf_gk a b k))) rfl (bif_lift (f := (oK (S.mhalf_gk a b k))) (bif_lift (f := (oK (S.mhalf_gk a b k))) rfl (bif_lift (f := (oK (S.mhalf_gk a b k))) rfl rfl)) (bif_lift (f := (oK (S.mhalf_gk a b k))) rfl rfl)))
def H79 : Hnd := fun R args σ k => match args, σ with
  | [.int .i64 a, .int .i64 b], [] => oK (fun v : Int × Int => k (.tuple [(.int .i64 v.1), (.int .i64 v.2)]) []) (S.mhalf a b)
  | _, _ => none
theorem H79_ok : HndOk Try.prog 79 H79 := hnd_ok tis tisOk mixOk G80_ok F79 Try.func79 rfl (by
  intro R args σ k r h
  unfold H79 at h
  split at h
  · rename_i a b; exact ⟨0, (S.mhalf_v a b _).trans h⟩
  · cases h)
def G79 : Env := Env.add 79 H79 G80
theorem G79_ok : EnvOk Try.prog G79 := envAdd_ok H79_ok G80_ok

/-! milli.Up -/
def F62 : FCfg := ⟨keepAt [(0, [0, 1]), (1, [0, 1, 6, 7]), (2, [6, 7, 28]), (3, [6, 7]), (4, [4, 5])], loopAt [], []⟩
theorem S.mup_k {R : Type} (a b : Int) (k : AVal → List Blk → Option R) : fnEval tis F62 0 G79 Try.f62 [.int .i64 a, .int .i64 b] [] k =
  ((optK (S.mhalf a b) fun o2 =>
   bif decide (o2.2 = 0) then
   bif decide (b = 0) then
   none
 else
   bif !decide (Int.tmod a b = 0) then
   bif decide (a < 0) == decide (b < 0) then
   k (.tuple [.int .i64 (Go.IntKind.wrap .i64 (o2.1 + 1)), .int .i64 o2.2]) ([])
 else
   k (.tuple [.int .i64 o2.1, .int .i64 o2.2]) ([])
 else
   k (.tuple [.int .i64 o2.1, .int .i64 o2.2]) ([])
 else
   k (.tuple [.int .i64 o2.1, .int .i64 o2.2]) ([]))) := by kernel_rfl
def S.mup (a b : Int) : Option (Int × Int) :=
  (optK (S.mhalf a b) fun o2 =>
   bif decide (o2.2 = 0) then
   bif decide (b = 0) then
   none
 else
   bif !decide (Int.tmod a b = 0) then
   bif decide (a < 0) == decide (b < 0) then
   some (Go.IntKind.wrap .i64 (o2.1 + 1), o2.2)
 else
   some (o2.1, o2.2)
 else
   some (o2.1, o2.2)
 else
   some (o2.1, o2.2))
noncomputable def S.mup_gk {R : Type} (a b : Int) (k : AVal → List Blk → Option R) : (Int × Int) → Option R := (fun v : Int × Int => k (.tuple [(.int .i64 v.1), (.int .i64 v.2)]) [])
theorem S.mup_v {R : Type} (a b : Int) (k : AVal → List Blk → Option R) : fnEval tis F62 0 G79 Try.f62 [.int .i64 a, .int .i64 b] [] k = oK (fun v : Int × Int => k (.tuple [(.int .i64 v.1), (.int .i64 v.2)]) []) (S.mup a b) :=
  (S.mup_k a b k).trans (opt_lift fun o2 => (bif_lift (f := (oK (S.mup_gk a b k))) (bif_lift (f := (oK (S.mup_gk a b k))) rfl (bif_lift (f := (oK (S.mup_gk a b k))) (bif_lift (f := (oK (S.mup_gk a b k))) rfl rfl) rfl)) rfl))
def H62 : Hnd := fun R args σ k => match args, σ with
  | [.int .i64 a, .int .i64 b], [] => oK (fun v : Int × Int => k (.tuple [(.int .i64 v.1), (.int .i64 v.2)]) []) (S.mup a b)
  | _, _ => none
theorem H62_ok : HndOk Try.prog 62 H62 := hnd_ok tis tisOk mixOk G79_ok F62 Try.func62 rfl (by
  intro R args σ k r h
  unfold H62 at h
  split at h
  · rename_i a b; exact ⟨0, (S.mup_v a b _).trans h⟩
  · cases h)
def G62 : Env := Env.add 62 H62 G79
theorem G62_ok : EnvOk Try.prog G62 := envAdd_ok H62_ok G79_ok

/-! milli.Down -/
def F87 : FCfg := ⟨keepAt [(0, [0, 1]), (1, [0, 1, 6, 7]), (2, [6, 7, 28]), (3, [6, 7]), (4, [4, 5])], loopAt [], []⟩
theorem S.mdown_k {R : Type} (a b : Int) (k : AVal → List Blk → Option R) : fnEval tis F87 0 G62 Try.f87 [.int .i64 a, .int .i64 b] [] k =
  ((optK (S.mhalf a b) fun o2 =>
   bif decide (o2.2 = 0) then
   bif decide (b = 0) then
   none
 else
   bif !decide (Int.tmod a b = 0) then
   bif !decide (a < 0) == decide (b < 0) then
   k (.tuple [.int .i64 (Go.IntKind.wrap .i64 (o2.1 - 1)), .int .i64 o2.2]) ([])
 else
   k (.tuple [.int .i64 o2.1, .int .i64 o2.2]) ([])
 else
   k (.tuple [.int .i64 o2.1, .int .i64 o2.2]) ([])
 else
   k (.tuple [.int .i64 o2.1, .int .i64 o2.2]) ([]))) := by kernel_rfl
def S.mdown (a b : Int) : Option (Int × Int) :=
  (optK (S.mhalf a b) fun o2 =>
   bif decide (o2.2 = 0) then
   bif decide (b = 0) then
   none
 else
   bif !decide (Int.tmod a b = 0) then
   bif !decide (a < 0) == decide (b < 0) then
   some (Go.IntKind.wrap .i64 (o2.1 - 1), o2.2)
 else
   some (o2.1, o2.2)
 else
   some (o2.1, o2.2)
 else
   some (o2.1, o2.2))
noncomputable def S.mdown_gk {R : Type} (a b : Int) (k : AVal → List Blk → Option R) : (Int × Int) → Option R := (fun v : Int × Int => k (.tuple [(.int .i64 v.1), (.int .i64 v.2)]) [])
theorem S.mdown_v {R : Type} (a b : Int) (k : AVal → List Blk → Option R) : fnEval tis F87 0 G62 Try.f87 [.int .i64 a, .int .i64 b] [] k = oK (fun v : Int × Int => k (.tuple [(.int .i64 v.1), (.int .i64 v.2)]) []) (S.mdown a b) :=
  (S.mdown_k a b k).trans (opt_lift fun o2 => (bif_lift (f := (oK (S.mdown_gk a b k))) (bif_lift (f := (oK (S.mdown_gk a b k))) rfl (bif_lift (f := (oK (S.mdown_gk a b k))) (bif_lift (f := (oK (S.mdown_gk a b k))) rfl rfl) rfl)) rfl))
def H87 : Hnd := fun R args σ k => match args, σ with
  | [.int .i64 a, .int .i64 b], [] => oK (fun v : Int × Int => k (.tuple [(.int .i64 v.1), (.int .i64 v.2)]) []) (S.mdown a b)
  | _, _ => none
theorem H87_ok : HndOk Try.prog 87 H87 := hnd_ok tis tisOk mixOk G62_ok F87 Try.func87 rfl (by
  intro R args σ k r h
  unfold H87 at h
  split at h
  · rename_i a b; exact ⟨0, (S.mdown_v a b _).trans h⟩
  · cases h)
def G87 : Env := Env.add 87 H87 G62
theorem G87_ok : EnvOk Try.prog G87 := envAdd_ok H87_ok G62_ok

/-! milli.Sub -/
def F74 : FCfg := ⟨keepAt [(0, [0, 1]), (1, [0, 1, 23]), (2, [4, 5]), (3, [4, 5])], loopAt [], []⟩
theorem S.msub_k {R : Type} (a b : Int) (k : AVal → List Blk → Option R) : fnEval tis F74 0 G87 Try.f74 [.int .i64 a, .int .i64 b] [] k =
  (bif decide (b < 0) then
   bif decide (Go.IntKind.wrap .i64 (9223372036854775807 + b) < a) then
   k (.tuple [.int .i64 (Prod.fst (S.mend (decide (b < 0)))), .int .i64 (Prod.snd (S.mend (decide (b < 0))))]) ([])
 else
   bif decide (0 < b) then
   bif decide (a < Go.IntKind.wrap .i64 (-9223372036854775808 + b)) then
   k (.tuple [.int .i64 (Prod.fst (S.mend (decide (b < 0)))), .int .i64 (Prod.snd (S.mend (decide (b < 0))))]) ([])
 else
   k (.tuple [.int .i64 (Go.IntKind.wrap .i64 (a - b)), .int .i64 0]) ([])
 else
   k (.tuple [.int .i64 (Go.IntKind.wrap .i64 (a - b)), .int .i64 0]) ([])
 else
   bif decide (0 < b) then
   bif decide (a < Go.IntKind.wrap .i64 (-9223372036854775808 + b)) then
   k (.tuple [.int .i64 (Prod.fst (S.mend (decide (b < 0)))), .int .i64 (Prod.snd (S.mend (decide (b < 0))))]) ([])
 else
   k (.tuple [.int .i64 (Go.IntKind.wrap .i64 (a - b)), .int .i64 0]) ([])
 else
   k (.tuple [.int .i64 (Go.IntKind.wrap .i64 (a - b)), .int .i64 0]) ([])) := by kernel_rfl
def S.msub (a b : Int) : Int × Int :=
  bif decide (b < 0) then
   bif decide (Go.IntKind.wrap .i64 (9223372036854775807 + b) < a) then
   (Prod.fst (S.mend (decide (b < 0))), Prod.snd (S.mend (decide (b < 0))))
 else
   bif decide (0 < b) then
   bif decide (a < Go.IntKind.wrap .i64 (-9223372036854775808 + b)) then
   (Prod.fst (S.mend (decide (b < 0))), Prod.snd (S.mend (decide (b < 0))))
 else
   (Go.IntKind.wrap .i64 (a - b), 0)
 else
   (Go.IntKind.wrap .i64 (a - b), 0)
 else
   bif decide (0 < b) then
   bif decide (a < Go.IntKind.wrap .i64 (-9223372036854775808 + b)) then
   (Prod.fst (S.mend (decide (b < 0))), Prod.snd (S.mend (decide (b < 0))))
 else
   (Go.IntKind.wrap .i64 (a - b), 0)
 else
   (Go.IntKind.wrap .i64 (a - b), 0)
noncomputable def S.msub_gk {R : Type} (a b : Int) (k : AVal → List Blk → Option R) : (Int × Int) → Option R := (fun v : Int × Int => k (.tuple [(.int .i64 v.1), (.int .i64 v.2)]) [])
theorem S.msub_v {R : Type} (a b : Int) (k : AVal → List Blk → Option R) : fnEval tis F74 0 G87 Try.f74 [.int .i64 a, .int .i64 b] [] k = k (.tuple [(.int .i64 (S.msub a b).1), (.int .i64 (S.msub a b).2)]) [] :=
  (S.msub_k a b k).trans (bif_lift (f := (S.msub_gk a b k)) (bif_lift (f := (S.msub_gk a b k)) rfl (bif_lift (f := (S.msub_gk a b k)) (bif_lift (f := (S.msub_gk a b k)) rfl rfl) rfl)) (bif_lift (f := (S.msub_gk a b k)) (bif_lift (f := (S.msub_gk a b k)) rfl rfl) rfl))
def H74 : Hnd := fun R args σ k => match args, σ with
  | [.int .i64 a, .int .i64 b], [] => k (.tuple [(.int .i64 (S.msub a b).1), (.int .i64 (S.msub a b).2)]) []
  | _, _ => none
theorem H74_ok : HndOk Try.prog 74 H74 := hnd_ok tis tisOk mixOk G87_ok F74 Try.func74 rfl (by
  intro R args σ k r h
  unfold H74 at h
  split at h
  · rename_i a b; exact ⟨0, (S.msub_v a b _).trans h⟩
  · cases h)
def G74 : Env := Env.add 74 H74 G87
theorem G74_ok : EnvOk Try.prog G74 := envAdd_ok H74_ok G87_ok

/-! milli.Clamp -/
def F61 : FCfg := ⟨keepAt [(0, [0, 1, 2]), (1, [0, 1, 2, 7]), (2, [6]), (3, [0, 1, 12]), (4, [6]), (5, [6])], loopAt [], []⟩
theorem S.mclamp_k {R : Type} (a lo hi : Int) (k : AVal → List Blk → Option R) : fnEval tis F61 0 G74 Try.f61 [.int .i64 a, .int .i64 lo, .int .i64 hi] [] k =
  (bif decide (hi < a) then
   k (.int .i64 hi) ([])
 else
   bif decide (a < lo) then
   k (.int .i64 lo) ([])
 else
   k (.int .i64 a) ([])) := by kernel_rfl
def S.mclamp (a lo hi : Int) : Int :=
  bif decide (hi < a) then
   (hi)
 else
   bif decide (a < lo) then
   (lo)
 else
   (a)
noncomputable def S.mclamp_gk {R : Type} (a lo hi : Int) (k : AVal → List Blk → Option R) : (Int) → Option R := (fun v : Int => k (.int .i64 v) [])
theorem S.mclamp_v {R : Type} (a lo hi : Int) (k : AVal → List Blk → Option R) : fnEval tis F61 0 G74 Try.f61 [.int .i64 a, .int .i64 lo, .int .i64 hi] [] k = k (.int .i64 (S.mclamp a lo hi)) [] :=
  (S.mclamp_k a lo hi k).trans (bif_lift (f := (S.mclamp_gk a lo hi k)) rfl (bif_lift (f := (S.mclamp_gk a lo hi k)) rfl rfl))
def H61 : Hnd := fun R args σ k => match args, σ with
  | [.int .i64 a, .int .i64 lo, .int .i64 hi], [] => k (.int .i64 (S.mclamp a lo hi)) []
  | _, _ => none
theorem H61_ok : HndOk Try.prog 61 H61 := hnd_ok tis tisOk mixOk G74_ok F61 Try.func61 rfl (by
  intro R args σ k r h
  unfold H61 at h
  split at h
  · rename_i a lo hi; exact ⟨0, (S.mclamp_v a lo hi _).trans h⟩
  · cases h)
def G61 : Env := Env.add 61 H61 G74
theorem G61_ok : EnvOk Try.prog G61 := envAdd_ok H61_ok G74_ok
end Go.Proofs.Ytdgipcjigbagfaa.AB
