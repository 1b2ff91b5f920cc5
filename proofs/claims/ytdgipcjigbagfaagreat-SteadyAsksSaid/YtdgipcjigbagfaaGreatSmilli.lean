/- The program's functions of layer 1 that are used, as plain functions. -/
import Derived.Test.YtdgipcjigbagfaaGreatSdiv
namespace Go.Proofs.YtdgipcjigbagfaaGreat.AB
set_option linter.unusedVariables false
abbrev FL : Type := List (Option Nat)
abbrev BL : Type := List (Int × Int × Int × Bool)
abbrev WL : Type := List (Option (Int × Int))
abbrev RL : Type := List (Int × Int)
instance (k : IntKind) (n : Nat) : OfNat (Cd.El (.int k)) n := inferInstanceAs (OfNat Int n)

/-! milli.Add -/
def F107 : FCfg := ⟨keepAt [(0, [0, 1]), (1, [0, 1, 23]), (2, [4, 5]), (3, [4, 5])], loopAt [], []⟩
noncomputable def S.madd_L {R : Type} (a b : Int) (k : AVal → List Blk → Option R) : Option R := fnEval tis F107 0 G115 Tryz.f107 [.int .i64 a, .int .i64 b] [] k
noncomputable def S.madd_gk {R : Type} (a b : Int) (k : AVal → List Blk → Option R) : (Int × Int) → Option R := (fun v : Int × Int => k (.tuple [(.int .i64 v.1), (.int .i64 v.2)]) [])
def S.madd (a b : Int) : Int × Int :=
  bif decide (0 < b) then
   bif decide (Go.IntKind.wrap .i64 (9223372036854775807 - b) < a) then
   (Prod.fst (S.mend (decide (0 < b))), Prod.snd (S.mend (decide (0 < b))))
 else
   bif decide (b < 0) then
   bif decide (a < Go.IntKind.wrap .i64 (-9223372036854775808 - b)) then
   (Prod.fst (S.mend (decide (0 < b))), Prod.snd (S.mend (decide (0 < b))))
 else
   (Go.IntKind.wrap .i64 (a + b), 0)
 else
   (Go.IntKind.wrap .i64 (a + b), 0)
 else
   bif decide (b < 0) then
   bif decide (a < Go.IntKind.wrap .i64 (-9223372036854775808 - b)) then
   (Prod.fst (S.mend (decide (0 < b))), Prod.snd (S.mend (decide (0 < b))))
 else
   (Go.IntKind.wrap .i64 (a + b), 0)
 else
   (Go.IntKind.wrap .i64 (a + b), 0)
theorem S.madd_v {R : Type} (a b : Int) (k : AVal → List Blk → Option R) : S.madd_L a b k = (S.madd_gk a b k) (S.madd a b) :=
  Eq.trans (b := (bif decide (0 < b) then
   bif decide (Go.IntKind.wrap .i64 (9223372036854775807 - b) < a) then
   (S.madd_gk a b k) (Prod.fst (S.mend (decide (0 < b))), Prod.snd (S.mend (decide (0 < b))))
 else
   bif decide (b < 0) then
   bif decide (a < Go.IntKind.wrap .i64 (-9223372036854775808 - b)) then
   (S.madd_gk a b k) (Prod.fst (S.mend (decide (0 < b))), Prod.snd (S.mend (decide (0 < b))))
 else
   (S.madd_gk a b k) (Go.IntKind.wrap .i64 (a + b), 0)
 else
   (S.madd_gk a b k) (Go.IntKind.wrap .i64 (a + b), 0)
 else
   bif decide (b < 0) then
   bif decide (a < Go.IntKind.wrap .i64 (-9223372036854775808 - b)) then
   (S.madd_gk a b k) (Prod.fst (S.mend (decide (0 < b))), Prod.snd (S.mend (decide (0 < b))))
 else
   (S.madd_gk a b k) (Go.IntKind.wrap .i64 (a + b), 0)
 else
   (S.madd_gk a b k) (Go.IntKind.wrap .i64 (a + b), 0))) (by kernel_rfl) (bif_lift (f := (S.madd_gk a b k)) (bif_lift (f := (S.madd_gk a b k)) rfl (bif_lift (f := (S.madd_gk a b k)) (bif_lift (f := (S.madd_gk a b k)) rfl rfl) rfl)) (bif_lift (f := (S.madd_gk a b k)) (bif_lift (f := (S.madd_gk a b k)) rfl rfl) rfl))
def H107 : Hnd := fun R args σ k => match args, σ with
  | [.int .i64 a, .int .i64 b], [] => k (.tuple [(.int .i64 (S.madd a b).1), (.int .i64 (S.madd a b).2)]) []
  | _, _ => none
theorem H107_ok : HndOk Tryz.prog 107 H107 := hnd_ok tis tisOk mixOk G115_ok F107 Tryz.func107 rfl (by
  intro R args σ k r h
  unfold H107 at h
  split at h
  · rename_i a b; exact ⟨0, (S.madd_v a b _).trans h⟩
  · cases h)
def G107 : Env := Env.add 107 H107 G115
theorem G107_ok : EnvOk Tryz.prog G107 := envAdd_ok H107_ok G115_ok

/-! milli.far -/
def F114 : FCfg := ⟨keepAt [(0, [0]), (1, [0, 4]), (2, [2]), (3, [2])], loopAt [], []⟩
noncomputable def S.far_L {R : Type} (a : Int) (k : AVal → List Blk → Option R) : Option R := fnEval tis F114 0 G107 Tryz.f114 [.int .i64 a] [] k
noncomputable def S.far_gk {R : Type} (a : Int) (k : AVal → List Blk → Option R) : (Int) → Option R := (fun v : Int => k (.int .u64 v) [])
def S.far (a : Int) : Int :=
  bif decide (a < 0) then
   (Go.IntKind.wrap .u64 (0 - Go.IntKind.wrap .u64 a))
 else
   (Go.IntKind.wrap .u64 a)
theorem S.far_v {R : Type} (a : Int) (k : AVal → List Blk → Option R) : S.far_L a k = (S.far_gk a k) (S.far a) :=
  Eq.trans (b := (bif decide (a < 0) then
   (S.far_gk a k) (Go.IntKind.wrap .u64 (0 - Go.IntKind.wrap .u64 a))
 else
   (S.far_gk a k) (Go.IntKind.wrap .u64 a))) (by kernel_rfl) (bif_lift (f := (S.far_gk a k)) rfl rfl)
def H114 : Hnd := fun R args σ k => match args, σ with
  | [.int .i64 a], [] => k (.int .u64 (S.far a)) []
  | _, _ => none
theorem H114_ok : HndOk Tryz.prog 114 H114 := hnd_ok tis tisOk mixOk G107_ok F114 Tryz.func114 rfl (by
  intro R args σ k r h
  unfold H114 at h
  split at h
  · rename_i a; exact ⟨0, (S.far_v a _).trans h⟩
  · cases h)
def G114 : Env := Env.add 114 H114 G107
theorem G114_ok : EnvOk Tryz.prog G114 := envAdd_ok H114_ok G107_ok

/-! milli.Mul -/
def F98 : FCfg := ⟨keepAt [(0, [0, 1]), (1, [0, 1, 6]), (2, [6, 7, 8]), (3, [6, 7, 8, 25]), (4, [4, 5]), (5, [6, 9, 10]), (6, [9, 10, 39]), (7, [9, 41]), (8, [4, 5]), (9, [4, 5]), (10, [9, 10, 49]), (11, [9, 10]), (12, [9, 61]), (13, [4, 5]), (14, [4, 5])], loopAt [], []⟩
noncomputable def S.mmul_L {R : Type} (a b : Int) (k : AVal → List Blk → Option R) : Option R := fnEval tis F98 0 G114 Tryz.f98 [.int .i64 a, .int .i64 b] [] k
noncomputable def S.mmul_gk {R : Type} (a b : Int) (k : AVal → List Blk → Option R) : (Int × Int) → Option R := (fun v : Int × Int => k (.tuple [(.int .i64 v.1), (.int .i64 v.2)]) [])
def S.mmul (a b : Int) : Option (Int × Int) :=
  bif decide (1000 ≤ Prod.fst (S.mul64 (S.far a) (S.far b))) then
   some (Prod.fst (S.mend !!decide (a < 0) == decide (b < 0)), Prod.snd (S.mend !!decide (a < 0) == decide (b < 0)))
 else
   (optK (S.div64 100000 (Prod.fst (S.mul64 (S.far a) (S.far b))) (Prod.snd (S.mul64 (S.far a) (S.far b))) 1000) fun o3 =>
   bif !!decide (a < 0) == decide (b < 0) then
   bif decide (9223372036854775807 < o3.1) then
   some (9223372036854775807, 2)
 else
   some (Go.IntKind.wrap .i64 o3.1, 0)
 else
   bif decide (0 < o3.2) then
   bif decide (9223372036854775808 < Go.IntKind.wrap .u64 (o3.1 + 1)) then
   some (-9223372036854775808, 2)
 else
   bif decide (0 < o3.2) then
   bif decide (Go.IntKind.wrap .u64 (o3.1 + 1) = 0) then
   some (-9223372036854775808, 2)
 else
   some (Go.IntKind.wrap .i64 (0 - Go.IntKind.wrap .i64 (Go.IntKind.wrap .u64 (o3.1 + 1))), 0)
 else
   some (Go.IntKind.wrap .i64 (0 - Go.IntKind.wrap .i64 (Go.IntKind.wrap .u64 (o3.1 + 1))), 0)
 else
   bif decide (9223372036854775808 < o3.1) then
   some (-9223372036854775808, 2)
 else
   bif decide (0 < o3.2) then
   bif decide (o3.1 = 0) then
   some (-9223372036854775808, 2)
 else
   some (Go.IntKind.wrap .i64 (0 - Go.IntKind.wrap .i64 o3.1), 0)
 else
   some (Go.IntKind.wrap .i64 (0 - Go.IntKind.wrap .i64 o3.1), 0))
theorem S.mmul_v {R : Type} (a b : Int) (k : AVal → List Blk → Option R) : S.mmul_L a b k = oK (S.mmul_gk a b k) (S.mmul a b) :=
  Eq.trans (b := (bif decide (1000 ≤ Prod.fst (S.mul64 (S.far a) (S.far b))) then
   (S.mmul_gk a b k) (Prod.fst (S.mend !!decide (a < 0) == decide (b < 0)), Prod.snd (S.mend !!decide (a < 0) == decide (b < 0)))
 else
   (optK (S.div64 100000 (Prod.fst (S.mul64 (S.far a) (S.far b))) (Prod.snd (S.mul64 (S.far a) (S.far b))) 1000) fun o3 =>
   bif !!decide (a < 0) == decide (b < 0) then
   bif decide (9223372036854775807 < o3.1) then
   (S.mmul_gk a b k) (9223372036854775807, 2)
 else
   (S.mmul_gk a b k) (Go.IntKind.wrap .i64 o3.1, 0)
 else
   bif decide (0 < o3.2) then
   bif decide (9223372036854775808 < Go.IntKind.wrap .u64 (o3.1 + 1)) then
   (S.mmul_gk a b k) (-9223372036854775808, 2)
 else
   bif decide (0 < o3.2) then
   bif decide (Go.IntKind.wrap .u64 (o3.1 + 1) = 0) then
   (S.mmul_gk a b k) (-9223372036854775808, 2)
 else
   (S.mmul_gk a b k) (Go.IntKind.wrap .i64 (0 - Go.IntKind.wrap .i64 (Go.IntKind.wrap .u64 (o3.1 + 1))), 0)
 else
   (S.mmul_gk a b k) (Go.IntKind.wrap .i64 (0 - Go.IntKind.wrap .i64 (Go.IntKind.wrap .u64 (o3.1 + 1))), 0)
 else
   bif decide (9223372036854775808 < o3.1) then
   (S.mmul_gk a b k) (-9223372036854775808, 2)
 else
   bif decide (0 < o3.2) then
   bif decide (o3.1 = 0) then
   (S.mmul_gk a b k) (-9223372036854775808, 2)
 else
   (S.mmul_gk a b k) (Go.IntKind.wrap .i64 (0 - Go.IntKind.wrap .i64 o3.1), 0)
 else
   (S.mmul_gk a b k) (Go.IntKind.wrap .i64 (0 - Go.IntKind.wrap .i64 o3.1), 0)))) (by kernel_rfl) (bif_lift (f := (oK (S.mmul_gk a b k))) rfl (opt_lift fun o3 => (bif_lift (f := (oK (S.mmul_gk a b k))) (bif_lift (f := (oK (S.mmul_gk a b k))) rfl rfl) (bif_lift (f := (oK (S.mmul_gk a b k))) (bif_lift (f := (oK (S.mmul_gk a b k))) rfl (bif_lift (f := (oK (S.mmul_gk a b k))) (bif_lift (f := (oK (S.mmul_gk a b k))) rfl rfl) rfl)) (bif_lift (f := (oK (S.mmul_gk a b k))) rfl (bif_lift (f := (oK (S.mmul_gk a b k))) (bif_lift (f := (oK (S.mmul_gk a b k))) rfl rfl) rfl))))))
def H98 : Hnd := fun R args σ k => match args, σ with
  | [.int .i64 a, .int .i64 b], [] => oK (fun v : Int × Int => k (.tuple [(.int .i64 v.1), (.int .i64 v.2)]) []) (S.mmul a b)
  | _, _ => none
theorem H98_ok : HndOk Tryz.prog 98 H98 := hnd_ok tis tisOk mixOk G114_ok F98 Tryz.func98 rfl (by
  intro R args σ k r h
  unfold H98 at h
  split at h
  · rename_i a b; exact ⟨0, (S.mmul_v a b _).trans h⟩
  · cases h)
def G98 : Env := Env.add 98 H98 G114
theorem G98_ok : EnvOk Tryz.prog G98 := envAdd_ok H98_ok G114_ok

/-! milli.half -/
def F97 : FCfg := ⟨keepAt [(0, [0, 1]), (1, [0, 1, 6]), (2, [4, 5]), (3, [0, 1, 9]), (4, [4, 5]), (5, [4, 5])], loopAt [], []⟩
noncomputable def S.mhalf_L {R : Type} (a b : Int) (k : AVal → List Blk → Option R) : Option R := fnEval tis F97 0 G98 Tryz.f97 [.int .i64 a, .int .i64 b] [] k
noncomputable def S.mhalf_gk {R : Type} (a b : Int) (k : AVal → List Blk → Option R) : (Int × Int) → Option R := (fun v : Int × Int => k (.tuple [(.int .i64 v.1), (.int .i64 v.2)]) [])
def S.mhalf (a b : Int) : Option (Int × Int) :=
  bif decide (b = 0) then
   some (0, 3)
 else
   bif decide (a = -9223372036854775808) then
   bif decide (b = -1) then
   some (9223372036854775807, 2)
 else
   bif decide (b = 0) then
   none
 else
   some (Go.IntKind.wrap .i64 (Int.tdiv a b), 0)
 else
   bif decide (b = 0) then
   none
 else
   some (Go.IntKind.wrap .i64 (Int.tdiv a b), 0)
theorem S.mhalf_v {R : Type} (a b : Int) (k : AVal → List Blk → Option R) : S.mhalf_L a b k = oK (S.mhalf_gk a b k) (S.mhalf a b) :=
  Eq.trans (b := (bif decide (b = 0) then
   (S.mhalf_gk a b k) (0, 3)
 else
   bif decide (a = -9223372036854775808) then
   bif decide (b = -1) then
   (S.mhalf_gk a b k) (9223372036854775807, 2)
 else
   bif decide (b = 0) then
   none
 else
   (S.mhalf_gk a b k) (Go.IntKind.wrap .i64 (Int.tdiv a b), 0)
 else
   bif decide (b = 0) then
   none
 else
   (S.mhalf_gk a b k) (Go.IntKind.wrap .i64 (Int.tdiv a b), 0))) (by kernel_rfl) (bif_lift (f := (oK (S.mhalf_gk a b k))) rfl (bif_lift (f := (oK (S.mhalf_gk a b k))) (bif_lift (f := (oK (S.mhalf_gk a b k))) rfl (bif_lift (f := (oK (S.mhalf_gk a b k))) rfl rfl)) (bif_lift (f := (oK (S.mhalf_gk a b k))) rfl rfl)))
def H97 : Hnd := fun R args σ k => match args, σ with
  | [.int .i64 a, .int .i64 b], [] => oK (fun v : Int × Int => k (.tuple [(.int .i64 v.1), (.int .i64 v.2)]) []) (S.mhalf a b)
  | _, _ => none
theorem H97_ok : HndOk Tryz.prog 97 H97 := hnd_ok tis tisOk mixOk G98_ok F97 Tryz.func97 rfl (by
  intro R args σ k r h
  unfold H97 at h
  split at h
  · rename_i a b; exact ⟨0, (S.mhalf_v a b _).trans h⟩
  · cases h)
def G97 : Env := Env.add 97 H97 G98
theorem G97_ok : EnvOk Tryz.prog G97 := envAdd_ok H97_ok G98_ok

/-! milli.Up -/
def F67 : FCfg := ⟨keepAt [(0, [0, 1]), (1, [0, 1, 6, 7]), (2, [6, 7, 28]), (3, [6, 7]), (4, [4, 5])], loopAt [], []⟩
noncomputable def S.mup_L {R : Type} (a b : Int) (k : AVal → List Blk → Option R) : Option R := fnEval tis F67 0 G97 Tryz.f67 [.int .i64 a, .int .i64 b] [] k
noncomputable def S.mup_gk {R : Type} (a b : Int) (k : AVal → List Blk → Option R) : (Int × Int) → Option R := (fun v : Int × Int => k (.tuple [(.int .i64 v.1), (.int .i64 v.2)]) [])
def S.mup (a b : Int) : Option (Int × Int) :=
  (optK (S.mhalf a b) fun o2 =>
   bif decide (o2.2 = 0) then
   bif decide (b = 0) then
   none
 else
   bif !decide (Int.tmod a b = 0) then
   bif decide (a < 0) == decide (b < 0) then
   some (Go.IntKind.wrap .i64 (o2.1 + 1), o2.2)
 else
   some (o2.1, o2.2)
 else
   some (o2.1, o2.2)
 else
   some (o2.1, o2.2))
theorem S.mup_v {R : Type} (a b : Int) (k : AVal → List Blk → Option R) : S.mup_L a b k = oK (S.mup_gk a b k) (S.mup a b) :=
  Eq.trans (b := ((optK (S.mhalf a b) fun o2 =>
   bif decide (o2.2 = 0) then
   bif decide (b = 0) then
   none
 else
   bif !decide (Int.tmod a b = 0) then
   bif decide (a < 0) == decide (b < 0) then
   (S.mup_gk a b k) (Go.IntKind.wrap .i64 (o2.1 + 1), o2.2)
 else
   (S.mup_gk a b k) (o2.1, o2.2)
 else
   (S.mup_gk a b k) (o2.1, o2.2)
 else
   (S.mup_gk a b k) (o2.1, o2.2)))) (by kernel_rfl) (opt_lift fun o2 => (bif_lift (f := (oK (S.mup_gk a b k))) (bif_lift (f := (oK (S.mup_gk a b k))) rfl (bif_lift (f := (oK (S.mup_gk a b k))) (bif_lift (f := (oK (S.mup_gk a b k))) rfl rfl) rfl)) rfl))
def H67 : Hnd := fun R args σ k => match args, σ with
  | [.int .i64 a, .int .i64 b], [] => oK (fun v : Int × Int => k (.tuple [(.int .i64 v.1), (.int .i64 v.2)]) []) (S.mup a b)
  | _, _ => none
theorem H67_ok : HndOk Tryz.prog 67 H67 := hnd_ok tis tisOk mixOk G97_ok F67 Tryz.func67 rfl (by
  intro R args σ k r h
  unfold H67 at h
  split at h
  · rename_i a b; exact ⟨0, (S.mup_v a b _).trans h⟩
  · cases h)
def G67 : Env := Env.add 67 H67 G97
theorem G67_ok : EnvOk Tryz.prog G67 := envAdd_ok H67_ok G97_ok

/-! milli.Down -/
def F109 : FCfg := ⟨keepAt [(0, [0, 1]), (1, [0, 1, 6, 7]), (2, [6, 7, 28]), (3, [6, 7]), (4, [4, 5])], loopAt [], []⟩
noncomputable def S.mdown_L {R : Type} (a b : Int) (k : AVal → List Blk → Option R) : Option R := fnEval tis F109 0 G67 Tryz.f109 [.int .i64 a, .int .i64 b] [] k
noncomputable def S.mdown_gk {R : Type} (a b : Int) (k : AVal → List Blk → Option R) : (Int × Int) → Option R := (fun v : Int × Int => k (.tuple [(.int .i64 v.1), (.int .i64 v.2)]) [])
def S.mdown (a b : Int) : Option (Int × Int) :=
  (optK (S.mhalf a b) fun o2 =>
   bif decide (o2.2 = 0) then
   bif decide (b = 0) then
   none
 else
   bif !decide (Int.tmod a b = 0) then
   bif !decide (a < 0) == decide (b < 0) then
   some (Go.IntKind.wrap .i64 (o2.1 - 1), o2.2)
 else
   some (o2.1, o2.2)
 else
   some (o2.1, o2.2)
 else
   some (o2.1, o2.2))
theorem S.mdown_v {R : Type} (a b : Int) (k : AVal → List Blk → Option R) : S.mdown_L a b k = oK (S.mdown_gk a b k) (S.mdown a b) :=
  Eq.trans (b := ((optK (S.mhalf a b) fun o2 =>
   bif decide (o2.2 = 0) then
   bif decide (b = 0) then
   none
 else
   bif !decide (Int.tmod a b = 0) then
   bif !decide (a < 0) == decide (b < 0) then
   (S.mdown_gk a b k) (Go.IntKind.wrap .i64 (o2.1 - 1), o2.2)
 else
   (S.mdown_gk a b k) (o2.1, o2.2)
 else
   (S.mdown_gk a b k) (o2.1, o2.2)
 else
   (S.mdown_gk a b k) (o2.1, o2.2)))) (by kernel_rfl) (opt_lift fun o2 => (bif_lift (f := (oK (S.mdown_gk a b k))) (bif_lift (f := (oK (S.mdown_gk a b k))) rfl (bif_lift (f := (oK (S.mdown_gk a b k))) (bif_lift (f := (oK (S.mdown_gk a b k))) rfl rfl) rfl)) rfl))
def H109 : Hnd := fun R args σ k => match args, σ with
  | [.int .i64 a, .int .i64 b], [] => oK (fun v : Int × Int => k (.tuple [(.int .i64 v.1), (.int .i64 v.2)]) []) (S.mdown a b)
  | _, _ => none
theorem H109_ok : HndOk Tryz.prog 109 H109 := hnd_ok tis tisOk mixOk G67_ok F109 Tryz.func109 rfl (by
  intro R args σ k r h
  unfold H109 at h
  split at h
  · rename_i a b; exact ⟨0, (S.mdown_v a b _).trans h⟩
  · cases h)
def G109 : Env := Env.add 109 H109 G67
theorem G109_ok : EnvOk Tryz.prog G109 := envAdd_ok H109_ok G67_ok

/-! milli.Sub -/
def F88 : FCfg := ⟨keepAt [(0, [0, 1]), (1, [0, 1, 23]), (2, [4, 5]), (3, [4, 5])], loopAt [], []⟩
noncomputable def S.msub_L {R : Type} (a b : Int) (k : AVal → List Blk → Option R) : Option R := fnEval tis F88 0 G109 Tryz.f88 [.int .i64 a, .int .i64 b] [] k
noncomputable def S.msub_gk {R : Type} (a b : Int) (k : AVal → List Blk → Option R) : (Int × Int) → Option R := (fun v : Int × Int => k (.tuple [(.int .i64 v.1), (.int .i64 v.2)]) [])
def S.msub (a b : Int) : Int × Int :=
  bif decide (b < 0) then
   bif decide (Go.IntKind.wrap .i64 (9223372036854775807 + b) < a) then
   (Prod.fst (S.mend (decide (b < 0))), Prod.snd (S.mend (decide (b < 0))))
 else
   bif decide (0 < b) then
   bif decide (a < Go.IntKind.wrap .i64 (-9223372036854775808 + b)) then
   (Prod.fst (S.mend (decide (b < 0))), Prod.snd (S.mend (decide (b < 0))))
 else
   (Go.IntKind.wrap .i64 (a - b), 0)
 else
   (Go.IntKind.wrap .i64 (a - b), 0)
 else
   bif decide (0 < b) then
   bif decide (a < Go.IntKind.wrap .i64 (-9223372036854775808 + b)) then
   (Prod.fst (S.mend (decide (b < 0))), Prod.snd (S.mend (decide (b < 0))))
 else
   (Go.IntKind.wrap .i64 (a - b), 0)
 else
   (Go.IntKind.wrap .i64 (a - b), 0)
theorem S.msub_v {R : Type} (a b : Int) (k : AVal → List Blk → Option R) : S.msub_L a b k = (S.msub_gk a b k) (S.msub a b) :=
  Eq.trans (b := (bif decide (b < 0) then
   bif decide (Go.IntKind.wrap .i64 (9223372036854775807 + b) < a) then
   (S.msub_gk a b k) (Prod.fst (S.mend (decide (b < 0))), Prod.snd (S.mend (decide (b < 0))))
 else
   bif decide (0 < b) then
   bif decide (a < Go.IntKind.wrap .i64 (-9223372036854775808 + b)) then
   (S.msub_gk a b k) (Prod.fst (S.mend (decide (b < 0))), Prod.snd (S.mend (decide (b < 0))))
 else
   (S.msub_gk a b k) (Go.IntKind.wrap .i64 (a - b), 0)
 else
   (S.msub_gk a b k) (Go.IntKind.wrap .i64 (a - b), 0)
 else
   bif decide (0 < b) then
   bif decide (a < Go.IntKind.wrap .i64 (-9223372036854775808 + b)) then
   (S.msub_gk a b k) (Prod.fst (S.mend (decide (b < 0))), Prod.snd (S.mend (decide (b < 0))))
 else
   (S.msub_gk a b k) (Go.IntKind.wrap .i64 (a - b), 0)
 else
   (S.msub_gk a b k) (Go.IntKind.wrap .i64 (a - b), 0))) (by kernel_rfl) (bif_lift (f := (S.msub_gk a b k)) (bif_lift (f := (S.msub_gk a b k)) rfl (bif_lift (f := (S.msub_gk a b k)) (bif_lift (f := (S.msub_gk a b k)) rfl rfl) rfl)) (bif_lift (f := (S.msub_gk a b k)) (bif_lift (f := (S.msub_gk a b k)) rfl rfl) rfl))
def H88 : Hnd := fun R args σ k => match args, σ with
  | [.int .i64 a, .int .i64 b], [] => k (.tuple [(.int .i64 (S.msub a b).1), (.int .i64 (S.msub a b).2)]) []
  | _, _ => none
theorem H88_ok : HndOk Tryz.prog 88 H88 := hnd_ok tis tisOk mixOk G109_ok F88 Tryz.func88 rfl (by
  intro R args σ k r h
  unfold H88 at h
  split at h
  · rename_i a b; exact ⟨0, (S.msub_v a b _).trans h⟩
  · cases h)
def G88 : Env := Env.add 88 H88 G109
theorem G88_ok : EnvOk Tryz.prog G88 := envAdd_ok H88_ok G109_ok

/-! milli.Clamp -/
def F65 : FCfg := ⟨keepAt [(0, [0, 1, 2]), (1, [0, 1, 2, 7]), (2, [6]), (3, [0, 1, 12]), (4, [6]), (5, [6])], loopAt [], []⟩
noncomputable def S.mclamp_L {R : Type} (a lo hi : Int) (k : AVal → List Blk → Option R) : Option R := fnEval tis F65 0 G88 Tryz.f65 [.int .i64 a, .int .i64 lo, .int .i64 hi] [] k
noncomputable def S.mclamp_gk {R : Type} (a lo hi : Int) (k : AVal → List Blk → Option R) : (Int) → Option R := (fun v : Int => k (.int .i64 v) [])
def S.mclamp (a lo hi : Int) : Int :=
  bif decide (hi < a) then
   (hi)
 else
   bif decide (a < lo) then
   (lo)
 else
   (a)
theorem S.mclamp_v {R : Type} (a lo hi : Int) (k : AVal → List Blk → Option R) : S.mclamp_L a lo hi k = (S.mclamp_gk a lo hi k) (S.mclamp a lo hi) :=
  Eq.trans (b := (bif decide (hi < a) then
   (S.mclamp_gk a lo hi k) (hi)
 else
   bif decide (a < lo) then
   (S.mclamp_gk a lo hi k) (lo)
 else
   (S.mclamp_gk a lo hi k) (a))) (by kernel_rfl) (bif_lift (f := (S.mclamp_gk a lo hi k)) rfl (bif_lift (f := (S.mclamp_gk a lo hi k)) rfl rfl))
def H65 : Hnd := fun R args σ k => match args, σ with
  | [.int .i64 a, .int .i64 lo, .int .i64 hi], [] => k (.int .i64 (S.mclamp a lo hi)) []
  | _, _ => none
theorem H65_ok : HndOk Tryz.prog 65 H65 := hnd_ok tis tisOk mixOk G88_ok F65 Tryz.func65 rfl (by
  intro R args σ k r h
  unfold H65 at h
  split at h
  · rename_i a lo hi; exact ⟨0, (S.mclamp_v a lo hi _).trans h⟩
  · cases h)
def G65 : Env := Env.add 65 H65 G88
theorem G65_ok : EnvOk Tryz.prog G65 := envAdd_ok H65_ok G88_ok
end Go.Proofs.YtdgipcjigbagfaaGreat.AB
