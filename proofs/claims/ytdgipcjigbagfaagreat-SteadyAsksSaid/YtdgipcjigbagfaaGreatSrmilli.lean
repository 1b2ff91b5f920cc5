/- The document's functions of layer 1 that are used, as plain functions. -/
import Derived.Test.YtdgipcjigbagfaaGreatSmilli
namespace Go.Proofs.YtdgipcjigbagfaaGreat.AB
set_option linter.unusedVariables false

/-! spinnakerref1.size -/
def F117 : FCfg := ⟨keepAt [(0, [0]), (1, [0, 4]), (2, [2]), (3, [2])], loopAt [], []⟩
noncomputable def S.rsize_L {R : Type} (a : Int) (k : AVal → List Blk → Option R) : Option R := fnEval tis F117 0 G65 Tryz.f117 [.int .i64 a] [] k
noncomputable def S.rsize_gk {R : Type} (a : Int) (k : AVal → List Blk → Option R) : (Int) → Option R := (fun v : Int => k (.int .u64 v) [])
noncomputable def S.rsize (a : Int) : Int :=
  bif decide (a < 0) then
   (Go.IntKind.wrap .u64 (Go.IntKind.wrap .u64 (Go.IntKind.wrap .i64 (0 - Go.IntKind.wrap .i64 (a + 1))) + 1))
 else
   (Go.IntKind.wrap .u64 a)
theorem S.rsize_v {R : Type} (a : Int) (k : AVal → List Blk → Option R) : S.rsize_L a k = (S.rsize_gk a k) (S.rsize a) :=
  Eq.trans (b := (bif decide (a < 0) then
   (S.rsize_gk a k) (Go.IntKind.wrap .u64 (Go.IntKind.wrap .u64 (Go.IntKind.wrap .i64 (0 - Go.IntKind.wrap .i64 (a + 1))) + 1))
 else
   (S.rsize_gk a k) (Go.IntKind.wrap .u64 a))) (by kernel_rfl) (bif_lift (f := (S.rsize_gk a k)) rfl rfl)
noncomputable def H117 : Hnd := fun R args σ k => match args, σ with
  | [.int .i64 a], [] => k (.int .u64 (S.rsize a)) []
  | _, _ => none
theorem H117_ok : HndOk Tryz.prog 117 H117 := hnd_ok tis tisOk mixOk G65_ok F117 Tryz.func117 rfl (by
  intro R args σ k r h
  unfold H117 at h
  split at h
  · rename_i a; exact ⟨0, (S.rsize_v a _).trans h⟩
  · cases h)
noncomputable def G117 : Env := Env.add 117 H117 G65
theorem G117_ok : EnvOk Tryz.prog G117 := envAdd_ok H117_ok G65_ok

/-! spinnakerref1.wide -/
def F116 : FCfg := ⟨keepAt [(0, [0, 1]), (1, [0, 1, 6, 7]), (2, [6, 7, 8, 9]), (3, [6, 7, 8, 9, 10]), (4, [4, 5])], loopAt [], []⟩
noncomputable def S.rwide_L {R : Type} (a b : Int) (k : AVal → List Blk → Option R) : Option R := fnEval tis F116 0 G117 Tryz.f116 [.int .u64 a, .int .u64 b] [] k
noncomputable def S.rwide (a b : Int) : Int × Int :=
  (Go.IntKind.wrap .u64 (Go.IntKind.wrap .u64 (Go.IntKind.wrap .u64 (Go.IntKind.wrap .u64 (Int.fdiv a 4294967296 * Int.fdiv b 4294967296) + Int.fdiv (Go.IntKind.wrap .u64 (Int.fdiv a 4294967296 * bitsA Go.BinOp.and .u64 b 4294967295)) 4294967296) + Int.fdiv (Go.IntKind.wrap .u64 (bitsA Go.BinOp.and .u64 a 4294967295 * Int.fdiv b 4294967296)) 4294967296) + Int.fdiv (Go.IntKind.wrap .u64 (Go.IntKind.wrap .u64 (bitsA Go.BinOp.and .u64 (Go.IntKind.wrap .u64 (Int.fdiv a 4294967296 * bitsA Go.BinOp.and .u64 b 4294967295)) 4294967295 + bitsA Go.BinOp.and .u64 (Go.IntKind.wrap .u64 (bitsA Go.BinOp.and .u64 a 4294967295 * Int.fdiv b 4294967296)) 4294967295) + Int.fdiv (Go.IntKind.wrap .u64 (bitsA Go.BinOp.and .u64 a 4294967295 * bitsA Go.BinOp.and .u64 b 4294967295)) 4294967296)) 4294967296), bitsA Go.BinOp.or .u64 (Go.IntKind.wrap .u64 (Go.IntKind.wrap .u64 (Go.IntKind.wrap .u64 (bitsA Go.BinOp.and .u64 (Go.IntKind.wrap .u64 (Int.fdiv a 4294967296 * bitsA Go.BinOp.and .u64 b 4294967295)) 4294967295 + bitsA Go.BinOp.and .u64 (Go.IntKind.wrap .u64 (bitsA Go.BinOp.and .u64 a 4294967295 * Int.fdiv b 4294967296)) 4294967295) + Int.fdiv (Go.IntKind.wrap .u64 (bitsA Go.BinOp.and .u64 a 4294967295 * bitsA Go.BinOp.and .u64 b 4294967295)) 4294967296) * 4294967296)) (bitsA Go.BinOp.and .u64 (Go.IntKind.wrap .u64 (bitsA Go.BinOp.and .u64 a 4294967295 * bitsA Go.BinOp.and .u64 b 4294967295)) 4294967295))
theorem S.rwide_v {R : Type} (a b : Int) (k : AVal → List Blk → Option R) : S.rwide_L a b k = k (.tuple [(.int .u64 (S.rwide a b).1), (.int .u64 (S.rwide a b).2)]) [] :=
  Eq.trans (b := (k (.tuple [.int .u64 (Go.IntKind.wrap .u64 (Go.IntKind.wrap .u64 (Go.IntKind.wrap .u64 (Go.IntKind.wrap .u64 (Int.fdiv a 4294967296 * Int.fdiv b 4294967296) + Int.fdiv (Go.IntKind.wrap .u64 (Int.fdiv a 4294967296 * bitsA Go.BinOp.and .u64 b 4294967295)) 4294967296) + Int.fdiv (Go.IntKind.wrap .u64 (bitsA Go.BinOp.and .u64 a 4294967295 * Int.fdiv b 4294967296)) 4294967296) + Int.fdiv (Go.IntKind.wrap .u64 (Go.IntKind.wrap .u64 (bitsA Go.BinOp.and .u64 (Go.IntKind.wrap .u64 (Int.fdiv a 4294967296 * bitsA Go.BinOp.and .u64 b 4294967295)) 4294967295 + bitsA Go.BinOp.and .u64 (Go.IntKind.wrap .u64 (bitsA Go.BinOp.and .u64 a 4294967295 * Int.fdiv b 4294967296)) 4294967295) + Int.fdiv (Go.IntKind.wrap .u64 (bitsA Go.BinOp.and .u64 a 4294967295 * bitsA Go.BinOp.and .u64 b 4294967295)) 4294967296)) 4294967296)), .int .u64 (bitsA Go.BinOp.or .u64 (Go.IntKind.wrap .u64 (Go.IntKind.wrap .u64 (Go.IntKind.wrap .u64 (bitsA Go.BinOp.and .u64 (Go.IntKind.wrap .u64 (Int.fdiv a 4294967296 * bitsA Go.BinOp.and .u64 b 4294967295)) 4294967295 + bitsA Go.BinOp.and .u64 (Go.IntKind.wrap .u64 (bitsA Go.BinOp.and .u64 a 4294967295 * Int.fdiv b 4294967296)) 4294967295) + Int.fdiv (Go.IntKind.wrap .u64 (bitsA Go.BinOp.and .u64 a 4294967295 * bitsA Go.BinOp.and .u64 b 4294967295)) 4294967296) * 4294967296)) (bitsA Go.BinOp.and .u64 (Go.IntKind.wrap .u64 (bitsA Go.BinOp.and .u64 a 4294967295 * bitsA Go.BinOp.and .u64 b 4294967295)) 4294967295))]) ([]))) (by kernel_rfl) rfl
noncomputable def H116 : Hnd := fun R args σ k => match args, σ with
  | [.int .u64 a, .int .u64 b], [] => k (.tuple [(.int .u64 (S.rwide a b).1), (.int .u64 (S.rwide a b).2)]) []
  | _, _ => none
theorem H116_ok : HndOk Tryz.prog 116 H116 := hnd_ok tis tisOk mixOk G117_ok F116 Tryz.func116 rfl (by
  intro R args σ k r h
  unfold H116 at h
  split at h
  · rename_i a b; exact ⟨0, (S.rwide_v a b _).trans h⟩
  · cases h)
noncomputable def G116 : Env := Env.add 116 H116 G117
theorem G116_ok : EnvOk Tryz.prog G116 := envAdd_ok H116_ok G117_ok

/-! spinnakerref1.thousandth -/
def F118 : FCfg := ⟨keepAt [(0, [0, 1]), (1, [1, 7, 8]), (2, [1, 7, 9]), (3, [7, 9, 10]), (4, [4, 5, 6])], loopAt [], []⟩
noncomputable def S.rthou_L {R : Type} (a b : Int) (k : AVal → List Blk → Option R) : Option R := fnEval tis F118 0 G116 Tryz.f118 [.int .u64 a, .int .u64 b] [] k
noncomputable def S.rthou (a b : Int) : Int × Int × Int :=
  (Go.IntKind.wrap .u64 (Int.tdiv a 1000), bitsA Go.BinOp.or .u64 (Go.IntKind.wrap .u64 (Go.IntKind.wrap .u64 (Int.tdiv (bitsA Go.BinOp.or .u64 (Go.IntKind.wrap .u64 (Int.tmod a 1000 * 4294967296)) (Int.fdiv b 4294967296)) 1000) * 4294967296)) (Go.IntKind.wrap .u64 (Int.tdiv (bitsA Go.BinOp.or .u64 (Go.IntKind.wrap .u64 (Int.tmod (bitsA Go.BinOp.or .u64 (Go.IntKind.wrap .u64 (Int.tmod a 1000 * 4294967296)) (Int.fdiv b 4294967296)) 1000 * 4294967296)) (bitsA Go.BinOp.and .u64 b 4294967295)) 1000)), Int.tmod (bitsA Go.BinOp.or .u64 (Go.IntKind.wrap .u64 (Int.tmod (bitsA Go.BinOp.or .u64 (Go.IntKind.wrap .u64 (Int.tmod a 1000 * 4294967296)) (Int.fdiv b 4294967296)) 1000 * 4294967296)) (bitsA Go.BinOp.and .u64 b 4294967295)) 1000)
theorem S.rthou_v {R : Type} (a b : Int) (k : AVal → List Blk → Option R) : S.rthou_L a b k = k (.tuple [(.int .u64 (S.rthou a b).1), (.int .u64 (S.rthou a b).2.1), (.int .u64 (S.rthou a b).2.2)]) [] :=
  Eq.trans (b := (k (.tuple [.int .u64 (Go.IntKind.wrap .u64 (Int.tdiv a 1000)), .int .u64 (bitsA Go.BinOp.or .u64 (Go.IntKind.wrap .u64 (Go.IntKind.wrap .u64 (Int.tdiv (bitsA Go.BinOp.or .u64 (Go.IntKind.wrap .u64 (Int.tmod a 1000 * 4294967296)) (Int.fdiv b 4294967296)) 1000) * 4294967296)) (Go.IntKind.wrap .u64 (Int.tdiv (bitsA Go.BinOp.or .u64 (Go.IntKind.wrap .u64 (Int.tmod (bitsA Go.BinOp.or .u64 (Go.IntKind.wrap .u64 (Int.tmod a 1000 * 4294967296)) (Int.fdiv b 4294967296)) 1000 * 4294967296)) (bitsA Go.BinOp.and .u64 b 4294967295)) 1000))), .int .u64 (Int.tmod (bitsA Go.BinOp.or .u64 (Go.IntKind.wrap .u64 (Int.tmod (bitsA Go.BinOp.or .u64 (Go.IntKind.wrap .u64 (Int.tmod a 1000 * 4294967296)) (Int.fdiv b 4294967296)) 1000 * 4294967296)) (bitsA Go.BinOp.and .u64 b 4294967295)) 1000)]) ([]))) (by kernel_rfl) rfl
noncomputable def H118 : Hnd := fun R args σ k => match args, σ with
  | [.int .u64 a, .int .u64 b], [] => k (.tuple [(.int .u64 (S.rthou a b).1), (.int .u64 (S.rthou a b).2.1), (.int .u64 (S.rthou a b).2.2)]) []
  | _, _ => none
theorem H118_ok : HndOk Tryz.prog 118 H118 := hnd_ok tis tisOk mixOk G116_ok F118 Tryz.func118 rfl (by
  intro R args σ k r h
  unfold H118 at h
  split at h
  · rename_i a b; exact ⟨0, (S.rthou_v a b _).trans h⟩
  · cases h)
noncomputable def G118 : Env := Env.add 118 H118 G116
theorem G118_ok : EnvOk Tryz.prog G118 := envAdd_ok H118_ok G116_ok
noncomputable def Z_rsize : {f : ∀ (a : Int), Int // f = fun (a : Int) => S.rsize a} := Classical.choice ⟨⟨_, rfl⟩⟩
noncomputable def S.q_rsize (a : Int) : Int := Z_rsize.1 a
theorem S.q_rsize_eq (a : Int) : S.q_rsize a = S.rsize a := by unfold S.q_rsize; rw [Z_rsize.2]
theorem S.q_rsize_v {R : Type} (a : Int) (k : AVal → List Blk → Option R) : S.rsize_L a k = (S.rsize_gk a k) (S.q_rsize a) :=
  (S.rsize_v a k).trans (by rw [S.q_rsize_eq])
noncomputable def H117s : Hnd := fun R args σ k => match args, σ with
  | [.int .i64 a], [] => k (.int .u64 (S.q_rsize a)) []
  | _, _ => none
theorem H117s_ok : HndOk Tryz.prog 117 H117s := hnd_ok tis tisOk mixOk G65_ok F117 Tryz.func117 rfl (by
  intro R args σ k r h
  unfold H117s at h
  split at h
  · rename_i a; exact ⟨0, (S.q_rsize_v a _).trans h⟩
  · cases h)
noncomputable def G117s : Env := Env.add 117 H117s G118
theorem G117s_ok : EnvOk Tryz.prog G117s := envAdd_ok H117s_ok G118_ok
noncomputable def Z_rwide : {f : ∀ (a b : Int), Int × Int // f = fun (a b : Int) => S.rwide a b} := Classical.choice ⟨⟨_, rfl⟩⟩
noncomputable def S.q_rwide (a b : Int) : Int × Int := Z_rwide.1 a b
theorem S.q_rwide_eq (a b : Int) : S.q_rwide a b = S.rwide a b := by unfold S.q_rwide; rw [Z_rwide.2]
theorem S.q_rwide_v {R : Type} (a b : Int) (k : AVal → List Blk → Option R) : S.rwide_L a b k = k (.tuple [(.int .u64 (S.q_rwide a b).1), (.int .u64 (S.q_rwide a b).2)]) [] :=
  (S.rwide_v a b k).trans (by rw [S.q_rwide_eq])
noncomputable def H116s : Hnd := fun R args σ k => match args, σ with
  | [.int .u64 a, .int .u64 b], [] => k (.tuple [(.int .u64 (S.q_rwide a b).1), (.int .u64 (S.q_rwide a b).2)]) []
  | _, _ => none
theorem H116s_ok : HndOk Tryz.prog 116 H116s := hnd_ok tis tisOk mixOk G117_ok F116 Tryz.func116 rfl (by
  intro R args σ k r h
  unfold H116s at h
  split at h
  · rename_i a b; exact ⟨0, (S.q_rwide_v a b _).trans h⟩
  · cases h)
noncomputable def G116s : Env := Env.add 116 H116s G117s
theorem G116s_ok : EnvOk Tryz.prog G116s := envAdd_ok H116s_ok G117s_ok
noncomputable def Z_rthou : {f : ∀ (a b : Int), Int × Int × Int // f = fun (a b : Int) => S.rthou a b} := Classical.choice ⟨⟨_, rfl⟩⟩
noncomputable def S.q_rthou (a b : Int) : Int × Int × Int := Z_rthou.1 a b
theorem S.q_rthou_eq (a b : Int) : S.q_rthou a b = S.rthou a b := by unfold S.q_rthou; rw [Z_rthou.2]
theorem S.q_rthou_v {R : Type} (a b : Int) (k : AVal → List Blk → Option R) : S.rthou_L a b k = k (.tuple [(.int .u64 (S.q_rthou a b).1), (.int .u64 (S.q_rthou a b).2.1), (.int .u64 (S.q_rthou a b).2.2)]) [] :=
  (S.rthou_v a b k).trans (by rw [S.q_rthou_eq])
noncomputable def H118s : Hnd := fun R args σ k => match args, σ with
  | [.int .u64 a, .int .u64 b], [] => k (.tuple [(.int .u64 (S.q_rthou a b).1), (.int .u64 (S.q_rthou a b).2.1), (.int .u64 (S.q_rthou a b).2.2)]) []
  | _, _ => none
theorem H118s_ok : HndOk Tryz.prog 118 H118s := hnd_ok tis tisOk mixOk G116_ok F118 Tryz.func118 rfl (by
  intro R args σ k r h
  unfold H118s at h
  split at h
  · rename_i a b; exact ⟨0, (S.q_rthou_v a b _).trans h⟩
  · cases h)
noncomputable def G118s : Env := Env.add 118 H118s G116s
theorem G118s_ok : EnvOk Tryz.prog G118s := envAdd_ok H118s_ok G116s_ok

/-! spinnakerref1.Mul -/
def F102 : FCfg := ⟨keepAt [(0, [0, 1]), (1, [0, 1, 6, 7]), (2, [0, 1, 8, 9, 10]), (3, [8, 9, 10, 11]), (4, [8, 9, 10, 41]), (5, [9, 47]), (6, [4, 5]), (7, [4, 5]), (8, [8, 9, 51]), (9, [8, 9]), (10, [8, 9, 55]), (11, [8, 9]), (12, [9, 63]), (13, [4, 5]), (14, [4, 5])], loopAt [], []⟩
noncomputable def S.rmul_L {R : Type} (a b : Int) (k : AVal → List Blk → Option R) : Option R := fnEval tis F102 0 G118s Tryz.f102 [.int .i64 a, .int .i64 b] [] k
noncomputable def S.rmul_gk {R : Type} (a b : Int) (k : AVal → List Blk → Option R) : (Int × Int) → Option R := (fun v : Int × Int => k (.tuple [(.int .i64 v.1), (.int .i64 v.2)]) [])
noncomputable def S.rmul (a b : Int) : Int × Int :=
  bif !decide (a < 0) == decide (b < 0) then
   bif !decide (a = 0) then
   bif !!decide (b = 0) then
   bif decide (0 < Prod.fst (S.q_rthou (Prod.fst (S.q_rwide (S.q_rsize a) (S.q_rsize b))) (Prod.snd (S.q_rwide (S.q_rsize a) (S.q_rsize b))))) then
   (9223372036854775807, 2)
 else
   bif decide (9223372036854775807 < Prod.fst (Prod.snd (S.q_rthou (Prod.fst (S.q_rwide (S.q_rsize a) (S.q_rsize b))) (Prod.snd (S.q_rwide (S.q_rsize a) (S.q_rsize b)))))) then
   (9223372036854775807, 2)
 else
   (Go.IntKind.wrap .i64 (Prod.fst (Prod.snd (S.q_rthou (Prod.fst (S.q_rwide (S.q_rsize a) (S.q_rsize b))) (Prod.snd (S.q_rwide (S.q_rsize a) (S.q_rsize b)))))), 0)
 else
   bif decide (0 < Prod.snd (Prod.snd (S.q_rthou (Prod.fst (S.q_rwide (S.q_rsize a) (S.q_rsize b))) (Prod.snd (S.q_rwide (S.q_rsize a) (S.q_rsize b)))))) then
   bif decide (Go.IntKind.wrap .u64 (Prod.fst (Prod.snd (S.q_rthou (Prod.fst (S.q_rwide (S.q_rsize a) (S.q_rsize b))) (Prod.snd (S.q_rwide (S.q_rsize a) (S.q_rsize b))))) + 1) = 0) then
   bif decide (0 < Go.IntKind.wrap .u64 (Prod.fst (S.q_rthou (Prod.fst (S.q_rwide (S.q_rsize a) (S.q_rsize b))) (Prod.snd (S.q_rwide (S.q_rsize a) (S.q_rsize b)))) + 1)) then
   (-9223372036854775808, 2)
 else
   bif decide (9223372036854775808 < Go.IntKind.wrap .u64 (Prod.fst (Prod.snd (S.q_rthou (Prod.fst (S.q_rwide (S.q_rsize a) (S.q_rsize b))) (Prod.snd (S.q_rwide (S.q_rsize a) (S.q_rsize b))))) + 1)) then
   (-9223372036854775808, 2)
 else
   (Go.IntKind.wrap .i64 (Go.IntKind.wrap .u64 (0 - Go.IntKind.wrap .u64 (Prod.fst (Prod.snd (S.q_rthou (Prod.fst (S.q_rwide (S.q_rsize a) (S.q_rsize b))) (Prod.snd (S.q_rwide (S.q_rsize a) (S.q_rsize b))))) + 1))), 0)
 else
   bif decide (0 < Prod.fst (S.q_rthou (Prod.fst (S.q_rwide (S.q_rsize a) (S.q_rsize b))) (Prod.snd (S.q_rwide (S.q_rsize a) (S.q_rsize b))))) then
   (-9223372036854775808, 2)
 else
   bif decide (9223372036854775808 < Go.IntKind.wrap .u64 (Prod.fst (Prod.snd (S.q_rthou (Prod.fst (S.q_rwide (S.q_rsize a) (S.q_rsize b))) (Prod.snd (S.q_rwide (S.q_rsize a) (S.q_rsize b))))) + 1)) then
   (-9223372036854775808, 2)
 else
   (Go.IntKind.wrap .i64 (Go.IntKind.wrap .u64 (0 - Go.IntKind.wrap .u64 (Prod.fst (Prod.snd (S.q_rthou (Prod.fst (S.q_rwide (S.q_rsize a) (S.q_rsize b))) (Prod.snd (S.q_rwide (S.q_rsize a) (S.q_rsize b))))) + 1))), 0)
 else
   bif decide (0 < Prod.fst (S.q_rthou (Prod.fst (S.q_rwide (S.q_rsize a) (S.q_rsize b))) (Prod.snd (S.q_rwide (S.q_rsize a) (S.q_rsize b))))) then
   (-9223372036854775808, 2)
 else
   bif decide (9223372036854775808 < Prod.fst (Prod.snd (S.q_rthou (Prod.fst (S.q_rwide (S.q_rsize a) (S.q_rsize b))) (Prod.snd (S.q_rwide (S.q_rsize a) (S.q_rsize b)))))) then
   (-9223372036854775808, 2)
 else
   (Go.IntKind.wrap .i64 (Go.IntKind.wrap .u64 (0 - Prod.fst (Prod.snd (S.q_rthou (Prod.fst (S.q_rwide (S.q_rsize a) (S.q_rsize b))) (Prod.snd (S.q_rwide (S.q_rsize a) (S.q_rsize b))))))), 0)
 else
   bif decide (0 < Prod.fst (S.q_rthou (Prod.fst (S.q_rwide (S.q_rsize a) (S.q_rsize b))) (Prod.snd (S.q_rwide (S.q_rsize a) (S.q_rsize b))))) then
   (9223372036854775807, 2)
 else
   bif decide (9223372036854775807 < Prod.fst (Prod.snd (S.q_rthou (Prod.fst (S.q_rwide (S.q_rsize a) (S.q_rsize b))) (Prod.snd (S.q_rwide (S.q_rsize a) (S.q_rsize b)))))) then
   (9223372036854775807, 2)
 else
   (Go.IntKind.wrap .i64 (Prod.fst (Prod.snd (S.q_rthou (Prod.fst (S.q_rwide (S.q_rsize a) (S.q_rsize b))) (Prod.snd (S.q_rwide (S.q_rsize a) (S.q_rsize b)))))), 0)
 else
   bif decide (0 < Prod.fst (S.q_rthou (Prod.fst (S.q_rwide (S.q_rsize a) (S.q_rsize b))) (Prod.snd (S.q_rwide (S.q_rsize a) (S.q_rsize b))))) then
   (9223372036854775807, 2)
 else
   bif decide (9223372036854775807 < Prod.fst (Prod.snd (S.q_rthou (Prod.fst (S.q_rwide (S.q_rsize a) (S.q_rsize b))) (Prod.snd (S.q_rwide (S.q_rsize a) (S.q_rsize b)))))) then
   (9223372036854775807, 2)
 else
   (Go.IntKind.wrap .i64 (Prod.fst (Prod.snd (S.q_rthou (Prod.fst (S.q_rwide (S.q_rsize a) (S.q_rsize b))) (Prod.snd (S.q_rwide (S.q_rsize a) (S.q_rsize b)))))), 0)
theorem S.rmul_v {R : Type} (a b : Int) (k : AVal → List Blk → Option R) : S.rmul_L a b k = (S.rmul_gk a b k) (S.rmul a b) :=
  Eq.trans (b := (bif !decide (a < 0) == decide (b < 0) then
   bif !decide (a = 0) then
   bif !!decide (b = 0) then
   bif decide (0 < Prod.fst (S.q_rthou (Prod.fst (S.q_rwide (S.q_rsize a) (S.q_rsize b))) (Prod.snd (S.q_rwide (S.q_rsize a) (S.q_rsize b))))) then
   (S.rmul_gk a b k) (9223372036854775807, 2)
 else
   bif decide (9223372036854775807 < Prod.fst (Prod.snd (S.q_rthou (Prod.fst (S.q_rwide (S.q_rsize a) (S.q_rsize b))) (Prod.snd (S.q_rwide (S.q_rsize a) (S.q_rsize b)))))) then
   (S.rmul_gk a b k) (9223372036854775807, 2)
 else
   (S.rmul_gk a b k) (Go.IntKind.wrap .i64 (Prod.fst (Prod.snd (S.q_rthou (Prod.fst (S.q_rwide (S.q_rsize a) (S.q_rsize b))) (Prod.snd (S.q_rwide (S.q_rsize a) (S.q_rsize b)))))), 0)
 else
   bif decide (0 < Prod.snd (Prod.snd (S.q_rthou (Prod.fst (S.q_rwide (S.q_rsize a) (S.q_rsize b))) (Prod.snd (S.q_rwide (S.q_rsize a) (S.q_rsize b)))))) then
   bif decide (Go.IntKind.wrap .u64 (Prod.fst (Prod.snd (S.q_rthou (Prod.fst (S.q_rwide (S.q_rsize a) (S.q_rsize b))) (Prod.snd (S.q_rwide (S.q_rsize a) (S.q_rsize b))))) + 1) = 0) then
   bif decide (0 < Go.IntKind.wrap .u64 (Prod.fst (S.q_rthou (Prod.fst (S.q_rwide (S.q_rsize a) (S.q_rsize b))) (Prod.snd (S.q_rwide (S.q_rsize a) (S.q_rsize b)))) + 1)) then
   (S.rmul_gk a b k) (-9223372036854775808, 2)
 else
   bif decide (9223372036854775808 < Go.IntKind.wrap .u64 (Prod.fst (Prod.snd (S.q_rthou (Prod.fst (S.q_rwide (S.q_rsize a) (S.q_rsize b))) (Prod.snd (S.q_rwide (S.q_rsize a) (S.q_rsize b))))) + 1)) then
   (S.rmul_gk a b k) (-9223372036854775808, 2)
 else
   (S.rmul_gk a b k) (Go.IntKind.wrap .i64 (Go.IntKind.wrap .u64 (0 - Go.IntKind.wrap .u64 (Prod.fst (Prod.snd (S.q_rthou (Prod.fst (S.q_rwide (S.q_rsize a) (S.q_rsize b))) (Prod.snd (S.q_rwide (S.q_rsize a) (S.q_rsize b))))) + 1))), 0)
 else
   bif decide (0 < Prod.fst (S.q_rthou (Prod.fst (S.q_rwide (S.q_rsize a) (S.q_rsize b))) (Prod.snd (S.q_rwide (S.q_rsize a) (S.q_rsize b))))) then
   (S.rmul_gk a b k) (-9223372036854775808, 2)
 else
   bif decide (9223372036854775808 < Go.IntKind.wrap .u64 (Prod.fst (Prod.snd (S.q_rthou (Prod.fst (S.q_rwide (S.q_rsize a) (S.q_rsize b))) (Prod.snd (S.q_rwide (S.q_rsize a) (S.q_rsize b))))) + 1)) then
   (S.rmul_gk a b k) (-9223372036854775808, 2)
 else
   (S.rmul_gk a b k) (Go.IntKind.wrap .i64 (Go.IntKind.wrap .u64 (0 - Go.IntKind.wrap .u64 (Prod.fst (Prod.snd (S.q_rthou (Prod.fst (S.q_rwide (S.q_rsize a) (S.q_rsize b))) (Prod.snd (S.q_rwide (S.q_rsize a) (S.q_rsize b))))) + 1))), 0)
 else
   bif decide (0 < Prod.fst (S.q_rthou (Prod.fst (S.q_rwide (S.q_rsize a) (S.q_rsize b))) (Prod.snd (S.q_rwide (S.q_rsize a) (S.q_rsize b))))) then
   (S.rmul_gk a b k) (-9223372036854775808, 2)
 else
   bif decide (9223372036854775808 < Prod.fst (Prod.snd (S.q_rthou (Prod.fst (S.q_rwide (S.q_rsize a) (S.q_rsize b))) (Prod.snd (S.q_rwide (S.q_rsize a) (S.q_rsize b)))))) then
   (S.rmul_gk a b k) (-9223372036854775808, 2)
 else
   (S.rmul_gk a b k) (Go.IntKind.wrap .i64 (Go.IntKind.wrap .u64 (0 - Prod.fst (Prod.snd (S.q_rthou (Prod.fst (S.q_rwide (S.q_rsize a) (S.q_rsize b))) (Prod.snd (S.q_rwide (S.q_rsize a) (S.q_rsize b))))))), 0)
 else
   bif decide (0 < Prod.fst (S.q_rthou (Prod.fst (S.q_rwide (S.q_rsize a) (S.q_rsize b))) (Prod.snd (S.q_rwide (S.q_rsize a) (S.q_rsize b))))) then
   (S.rmul_gk a b k) (9223372036854775807, 2)
 else
   bif decide (9223372036854775807 < Prod.fst (Prod.snd (S.q_rthou (Prod.fst (S.q_rwide (S.q_rsize a) (S.q_rsize b))) (Prod.snd (S.q_rwide (S.q_rsize a) (S.q_rsize b)))))) then
   (S.rmul_gk a b k) (9223372036854775807, 2)
 else
   (S.rmul_gk a b k) (Go.IntKind.wrap .i64 (Prod.fst (Prod.snd (S.q_rthou (Prod.fst (S.q_rwide (S.q_rsize a) (S.q_rsize b))) (Prod.snd (S.q_rwide (S.q_rsize a) (S.q_rsize b)))))), 0)
 else
   bif decide (0 < Prod.fst (S.q_rthou (Prod.fst (S.q_rwide (S.q_rsize a) (S.q_rsize b))) (Prod.snd (S.q_rwide (S.q_rsize a) (S.q_rsize b))))) then
   (S.rmul_gk a b k) (9223372036854775807, 2)
 else
   bif decide (9223372036854775807 < Prod.fst (Prod.snd (S.q_rthou (Prod.fst (S.q_rwide (S.q_rsize a) (S.q_rsize b))) (Prod.snd (S.q_rwide (S.q_rsize a) (S.q_rsize b)))))) then
   (S.rmul_gk a b k) (9223372036854775807, 2)
 else
   (S.rmul_gk a b k) (Go.IntKind.wrap .i64 (Prod.fst (Prod.snd (S.q_rthou (Prod.fst (S.q_rwide (S.q_rsize a) (S.q_rsize b))) (Prod.snd (S.q_rwide (S.q_rsize a) (S.q_rsize b)))))), 0))) (by kernel_rfl) (bif_lift (f := (S.rmul_gk a b k)) (bif_lift (f := (S.rmul_gk a b k)) (bif_lift (f := (S.rmul_gk a b k)) (bif_lift (f := (S.rmul_gk a b k)) rfl (bif_lift (f := (S.rmul_gk a b k)) rfl rfl)) (bif_lift (f := (S.rmul_gk a b k)) (bif_lift (f := (S.rmul_gk a b k)) (bif_lift (f := (S.rmul_gk a b k)) rfl (bif_lift (f := (S.rmul_gk a b k)) rfl rfl)) (bif_lift (f := (S.rmul_gk a b k)) rfl (bif_lift (f := (S.rmul_gk a b k)) rfl rfl))) (bif_lift (f := (S.rmul_gk a b k)) rfl (bif_lift (f := (S.rmul_gk a b k)) rfl rfl)))) (bif_lift (f := (S.rmul_gk a b k)) rfl (bif_lift (f := (S.rmul_gk a b k)) rfl rfl))) (bif_lift (f := (S.rmul_gk a b k)) rfl (bif_lift (f := (S.rmul_gk a b k)) rfl rfl)))
noncomputable def H102 : Hnd := fun R args σ k => match args, σ with
  | [.int .i64 a, .int .i64 b], [] => k (.tuple [(.int .i64 (S.rmul a b).1), (.int .i64 (S.rmul a b).2)]) []
  | _, _ => none
theorem H102_ok : HndOk Tryz.prog 102 H102 := hnd_ok tis tisOk mixOk G118s_ok F102 Tryz.func102 rfl (by
  intro R args σ k r h
  unfold H102 at h
  split at h
  · rename_i a b; exact ⟨0, (S.rmul_v a b _).trans h⟩
  · cases h)
noncomputable def G102 : Env := Env.add 102 H102 G118s
theorem G102_ok : EnvOk Tryz.prog G102 := envAdd_ok H102_ok G118s_ok

/-! spinnakerref1.Up -/
def F71 : FCfg := ⟨keepAt [(0, [0, 1]), (1, [0, 1, 7]), (2, [4, 5]), (3, [0, 1, 10]), (4, [4, 5]), (5, [0, 1, 6]), (6, [6, 30]), (7, [6]), (8, [4, 5])], loopAt [], []⟩
noncomputable def S.rup_L {R : Type} (a b : Int) (k : AVal → List Blk → Option R) : Option R := fnEval tis F71 0 G102 Tryz.f71 [.int .i64 a, .int .i64 b] [] k
noncomputable def S.rup_gk {R : Type} (a b : Int) (k : AVal → List Blk → Option R) : (Int × Int) → Option R := (fun v : Int × Int => k (.tuple [(.int .i64 v.1), (.int .i64 v.2)]) [])
noncomputable def S.rup (a b : Int) : Option (Int × Int) :=
  bif decide (b = 0) then
   some (0, 3)
 else
   bif decide (a = -9223372036854775808) then
   bif decide (b = -1) then
   some (9223372036854775807, 2)
 else
   bif decide (b = 0) then
   none
 else
   bif decide (b = 0) then
   none
 else
   bif !decide (Int.tmod a b = 0) then
   bif decide (a < 0) == decide (b < 0) then
   some (Go.IntKind.wrap .i64 (Go.IntKind.wrap .i64 (Int.tdiv a b) + 1), 0)
 else
   some (Go.IntKind.wrap .i64 (Int.tdiv a b), 0)
 else
   some (Go.IntKind.wrap .i64 (Int.tdiv a b), 0)
 else
   bif decide (b = 0) then
   none
 else
   bif decide (b = 0) then
   none
 else
   bif !decide (Int.tmod a b = 0) then
   bif decide (a < 0) == decide (b < 0) then
   some (Go.IntKind.wrap .i64 (Go.IntKind.wrap .i64 (Int.tdiv a b) + 1), 0)
 else
   some (Go.IntKind.wrap .i64 (Int.tdiv a b), 0)
 else
   some (Go.IntKind.wrap .i64 (Int.tdiv a b), 0)
theorem S.rup_v {R : Type} (a b : Int) (k : AVal → List Blk → Option R) : S.rup_L a b k = oK (S.rup_gk a b k) (S.rup a b) :=
  Eq.trans (b := (bif decide (b = 0) then
   (S.rup_gk a b k) (0, 3)
 else
   bif decide (a = -9223372036854775808) then
   bif decide (b = -1) then
   (S.rup_gk a b k) (9223372036854775807, 2)
 else
   bif decide (b = 0) then
   none
 else
   bif decide (b = 0) then
   none
 else
   bif !decide (Int.tmod a b = 0) then
   bif decide (a < 0) == decide (b < 0) then
   (S.rup_gk a b k) (Go.IntKind.wrap .i64 (Go.IntKind.wrap .i64 (Int.tdiv a b) + 1), 0)
 else
   (S.rup_gk a b k) (Go.IntKind.wrap .i64 (Int.tdiv a b), 0)
 else
   (S.rup_gk a b k) (Go.IntKind.wrap .i64 (Int.tdiv a b), 0)
 else
   bif decide (b = 0) then
   none
 else
   bif decide (b = 0) then
   none
 else
   bif !decide (Int.tmod a b = 0) then
   bif decide (a < 0) == decide (b < 0) then
   (S.rup_gk a b k) (Go.IntKind.wrap .i64 (Go.IntKind.wrap .i64 (Int.tdiv a b) + 1), 0)
 else
   (S.rup_gk a b k) (Go.IntKind.wrap .i64 (Int.tdiv a b), 0)
 else
   (S.rup_gk a b k) (Go.IntKind.wrap .i64 (Int.tdiv a b), 0))) (by kernel_rfl) (bif_lift (f := (oK (S.rup_gk a b k))) rfl (bif_lift (f := (oK (S.rup_gk a b k))) (bif_lift (f := (oK (S.rup_gk a b k))) rfl (bif_lift (f := (oK (S.rup_gk a b k))) rfl (bif_lift (f := (oK (S.rup_gk a b k))) rfl (bif_lift (f := (oK (S.rup_gk a b k))) (bif_lift (f := (oK (S.rup_gk a b k))) rfl rfl) rfl)))) (bif_lift (f := (oK (S.rup_gk a b k))) rfl (bif_lift (f := (oK (S.rup_gk a b k))) rfl (bif_lift (f := (oK (S.rup_gk a b k))) (bif_lift (f := (oK (S.rup_gk a b k))) rfl rfl) rfl)))))
noncomputable def H71 : Hnd := fun R args σ k => match args, σ with
  | [.int .i64 a, .int .i64 b], [] => oK (fun v : Int × Int => k (.tuple [(.int .i64 v.1), (.int .i64 v.2)]) []) (S.rup a b)
  | _, _ => none
theorem H71_ok : HndOk Tryz.prog 71 H71 := hnd_ok tis tisOk mixOk G102_ok F71 Tryz.func71 rfl (by
  intro R args σ k r h
  unfold H71 at h
  split at h
  · rename_i a b; exact ⟨0, (S.rup_v a b _).trans h⟩
  · cases h)
noncomputable def G71 : Env := Env.add 71 H71 G102
theorem G71_ok : EnvOk Tryz.prog G71 := envAdd_ok H71_ok G102_ok

/-! spinnakerref1.Sub -/
def F94 : FCfg := ⟨keepAt [(0, [0, 1]), (1, [0, 1, 13]), (2, [4, 5]), (3, [0, 1, 21]), (4, [4, 5]), (5, [4, 5])], loopAt [], []⟩
noncomputable def S.rsub_L {R : Type} (a b : Int) (k : AVal → List Blk → Option R) : Option R := fnEval tis F94 0 G71 Tryz.f94 [.int .i64 a, .int .i64 b] [] k
noncomputable def S.rsub_gk {R : Type} (a b : Int) (k : AVal → List Blk → Option R) : (Int × Int) → Option R := (fun v : Int × Int => k (.tuple [(.int .i64 v.1), (.int .i64 v.2)]) [])
noncomputable def S.rsub (a b : Int) : Int × Int :=
  bif decide (b < 0) then
   bif decide (Go.IntKind.wrap .i64 (9223372036854775807 + b) < a) then
   (9223372036854775807, 2)
 else
   bif decide (0 < b) then
   bif decide (a < Go.IntKind.wrap .i64 (-9223372036854775808 + b)) then
   (-9223372036854775808, 2)
 else
   (Go.IntKind.wrap .i64 (a - b), 0)
 else
   (Go.IntKind.wrap .i64 (a - b), 0)
 else
   bif decide (0 < b) then
   bif decide (a < Go.IntKind.wrap .i64 (-9223372036854775808 + b)) then
   (-9223372036854775808, 2)
 else
   (Go.IntKind.wrap .i64 (a - b), 0)
 else
   (Go.IntKind.wrap .i64 (a - b), 0)
theorem S.rsub_v {R : Type} (a b : Int) (k : AVal → List Blk → Option R) : S.rsub_L a b k = (S.rsub_gk a b k) (S.rsub a b) :=
  Eq.trans (b := (bif decide (b < 0) then
   bif decide (Go.IntKind.wrap .i64 (9223372036854775807 + b) < a) then
   (S.rsub_gk a b k) (9223372036854775807, 2)
 else
   bif decide (0 < b) then
   bif decide (a < Go.IntKind.wrap .i64 (-9223372036854775808 + b)) then
   (S.rsub_gk a b k) (-9223372036854775808, 2)
 else
   (S.rsub_gk a b k) (Go.IntKind.wrap .i64 (a - b), 0)
 else
   (S.rsub_gk a b k) (Go.IntKind.wrap .i64 (a - b), 0)
 else
   bif decide (0 < b) then
   bif decide (a < Go.IntKind.wrap .i64 (-9223372036854775808 + b)) then
   (S.rsub_gk a b k) (-9223372036854775808, 2)
 else
   (S.rsub_gk a b k) (Go.IntKind.wrap .i64 (a - b), 0)
 else
   (S.rsub_gk a b k) (Go.IntKind.wrap .i64 (a - b), 0))) (by kernel_rfl) (bif_lift (f := (S.rsub_gk a b k)) (bif_lift (f := (S.rsub_gk a b k)) rfl (bif_lift (f := (S.rsub_gk a b k)) (bif_lift (f := (S.rsub_gk a b k)) rfl rfl) rfl)) (bif_lift (f := (S.rsub_gk a b k)) (bif_lift (f := (S.rsub_gk a b k)) rfl rfl) rfl))
noncomputable def H94 : Hnd := fun R args σ k => match args, σ with
  | [.int .i64 a, .int .i64 b], [] => k (.tuple [(.int .i64 (S.rsub a b).1), (.int .i64 (S.rsub a b).2)]) []
  | _, _ => none
theorem H94_ok : HndOk Tryz.prog 94 H94 := hnd_ok tis tisOk mixOk G71_ok F94 Tryz.func94 rfl (by
  intro R args σ k r h
  unfold H94 at h
  split at h
  · rename_i a b; exact ⟨0, (S.rsub_v a b _).trans h⟩
  · cases h)
noncomputable def G94 : Env := Env.add 94 H94 G71
theorem G94_ok : EnvOk Tryz.prog G94 := envAdd_ok H94_ok G71_ok

/-! spinnakerref1.Add -/
def F112 : FCfg := ⟨keepAt [(0, [0, 1]), (1, [0, 1, 13]), (2, [4, 5]), (3, [0, 1, 21]), (4, [4, 5]), (5, [4, 5])], loopAt [], []⟩
noncomputable def S.radd_L {R : Type} (a b : Int) (k : AVal → List Blk → Option R) : Option R := fnEval tis F112 0 G94 Tryz.f112 [.int .i64 a, .int .i64 b] [] k
noncomputable def S.radd_gk {R : Type} (a b : Int) (k : AVal → List Blk → Option R) : (Int × Int) → Option R := (fun v : Int × Int => k (.tuple [(.int .i64 v.1), (.int .i64 v.2)]) [])
noncomputable def S.radd (a b : Int) : Int × Int :=
  bif decide (0 < b) then
   bif decide (Go.IntKind.wrap .i64 (9223372036854775807 - b) < a) then
   (9223372036854775807, 2)
 else
   bif decide (b < 0) then
   bif decide (a < Go.IntKind.wrap .i64 (-9223372036854775808 - b)) then
   (-9223372036854775808, 2)
 else
   (Go.IntKind.wrap .i64 (a + b), 0)
 else
   (Go.IntKind.wrap .i64 (a + b), 0)
 else
   bif decide (b < 0) then
   bif decide (a < Go.IntKind.wrap .i64 (-9223372036854775808 - b)) then
   (-9223372036854775808, 2)
 else
   (Go.IntKind.wrap .i64 (a + b), 0)
 else
   (Go.IntKind.wrap .i64 (a + b), 0)
theorem S.radd_v {R : Type} (a b : Int) (k : AVal → List Blk → Option R) : S.radd_L a b k = (S.radd_gk a b k) (S.radd a b) :=
  Eq.trans (b := (bif decide (0 < b) then
   bif decide (Go.IntKind.wrap .i64 (9223372036854775807 - b) < a) then
   (S.radd_gk a b k) (9223372036854775807, 2)
 else
   bif decide (b < 0) then
   bif decide (a < Go.IntKind.wrap .i64 (-9223372036854775808 - b)) then
   (S.radd_gk a b k) (-9223372036854775808, 2)
 else
   (S.radd_gk a b k) (Go.IntKind.wrap .i64 (a + b), 0)
 else
   (S.radd_gk a b k) (Go.IntKind.wrap .i64 (a + b), 0)
 else
   bif decide (b < 0) then
   bif decide (a < Go.IntKind.wrap .i64 (-9223372036854775808 - b)) then
   (S.radd_gk a b k) (-9223372036854775808, 2)
 else
   (S.radd_gk a b k) (Go.IntKind.wrap .i64 (a + b), 0)
 else
   (S.radd_gk a b k) (Go.IntKind.wrap .i64 (a + b), 0))) (by kernel_rfl) (bif_lift (f := (S.radd_gk a b k)) (bif_lift (f := (S.radd_gk a b k)) rfl (bif_lift (f := (S.radd_gk a b k)) (bif_lift (f := (S.radd_gk a b k)) rfl rfl) rfl)) (bif_lift (f := (S.radd_gk a b k)) (bif_lift (f := (S.radd_gk a b k)) rfl rfl) rfl))
noncomputable def H112 : Hnd := fun R args σ k => match args, σ with
  | [.int .i64 a, .int .i64 b], [] => k (.tuple [(.int .i64 (S.radd a b).1), (.int .i64 (S.radd a b).2)]) []
  | _, _ => none
theorem H112_ok : HndOk Tryz.prog 112 H112 := hnd_ok tis tisOk mixOk G94_ok F112 Tryz.func112 rfl (by
  intro R args σ k r h
  unfold H112 at h
  split at h
  · rename_i a b; exact ⟨0, (S.radd_v a b _).trans h⟩
  · cases h)
noncomputable def G112 : Env := Env.add 112 H112 G94
theorem G112_ok : EnvOk Tryz.prog G112 := envAdd_ok H112_ok G94_ok

/-! spinnakerref1.Clamp -/
def F25 : FCfg := ⟨keepAt [(0, [0, 1, 2]), (1, [0, 1, 2, 9]), (2, [6]), (3, [0, 1, 13]), (4, [6]), (5, [6])], loopAt [], []⟩
noncomputable def S.rclamp_L {R : Type} (a lo hi : Int) (k : AVal → List Blk → Option R) : Option R := fnEval tis F25 0 G112 Tryz.f25 [.int .i64 a, .int .i64 lo, .int .i64 hi] [] k
noncomputable def S.rclamp_gk {R : Type} (a lo hi : Int) (k : AVal → List Blk → Option R) : (Int) → Option R := (fun v : Int => k (.int .i64 v) [])
noncomputable def S.rclamp (a lo hi : Int) : Int :=
  bif decide (hi < a) then
   (hi)
 else
   bif decide (a < lo) then
   (lo)
 else
   (a)
theorem S.rclamp_v {R : Type} (a lo hi : Int) (k : AVal → List Blk → Option R) : S.rclamp_L a lo hi k = (S.rclamp_gk a lo hi k) (S.rclamp a lo hi) :=
  Eq.trans (b := (bif decide (hi < a) then
   (S.rclamp_gk a lo hi k) (hi)
 else
   bif decide (a < lo) then
   (S.rclamp_gk a lo hi k) (lo)
 else
   (S.rclamp_gk a lo hi k) (a))) (by kernel_rfl) (bif_lift (f := (S.rclamp_gk a lo hi k)) rfl (bif_lift (f := (S.rclamp_gk a lo hi k)) rfl rfl))
noncomputable def H25 : Hnd := fun R args σ k => match args, σ with
  | [.int .i64 a, .int .i64 lo, .int .i64 hi], [] => k (.int .i64 (S.rclamp a lo hi)) []
  | _, _ => none
theorem H25_ok : HndOk Tryz.prog 25 H25 := hnd_ok tis tisOk mixOk G112_ok F25 Tryz.func25 rfl (by
  intro R args σ k r h
  unfold H25 at h
  split at h
  · rename_i a lo hi; exact ⟨0, (S.rclamp_v a lo hi _).trans h⟩
  · cases h)
noncomputable def G25 : Env := Env.add 25 H25 G112
theorem G25_ok : EnvOk Tryz.prog G25 := envAdd_ok H25_ok G112_ok
end Go.Proofs.YtdgipcjigbagfaaGreat.AB
