/- The document's functions of layer 1 that are used, as plain functions. -/
import Derived.Test.YtdflpflffccmgaaSmilli
namespace Go.Proofs.Ytdflpflffccmgaa.AB
set_option linter.unusedVariables false

/-! spinnakerref1.size -/
def F67 : FCfg := ⟨keepAt [(0, [0]), (1, [0, 4]), (2, [2]), (3, [2])], loopAt [], []⟩
theorem S.rsize_k {R : Type} (a : Int) (k : AVal → List Blk → Option R) : fnEval tis F67 0 G62 Try.f67 [.int .i64 a] [] k =
  (bif decide (a < 0) then
   k (.int .u64 (Go.IntKind.wrap .u64 (Go.IntKind.wrap .u64 (Go.IntKind.wrap .i64 (0 - Go.IntKind.wrap .i64 (a + 1))) + 1))) ([])
 else
   k (.int .u64 (Go.IntKind.wrap .u64 a)) ([])) := by kernel_rfl
noncomputable def S.rsize (a : Int) : Int :=
  bif decide (a < 0) then
   (Go.IntKind.wrap .u64 (Go.IntKind.wrap .u64 (Go.IntKind.wrap .i64 (0 - Go.IntKind.wrap .i64 (a + 1))) + 1))
 else
   (Go.IntKind.wrap .u64 a)
noncomputable def S.rsize_gk {R : Type} (a : Int) (k : AVal → List Blk → Option R) : (Int) → Option R := (fun v : Int => k (.int .u64 v) [])
theorem S.rsize_v {R : Type} (a : Int) (k : AVal → List Blk → Option R) : fnEval tis F67 0 G62 Try.f67 [.int .i64 a] [] k = k (.int .u64 (S.rsize a)) [] :=
  (S.rsize_k a k).trans (bif_lift (f := (S.rsize_gk a k)) rfl rfl)
noncomputable def H67 : Hnd := fun R args σ k => match args, σ with
  | [.int .i64 a], [] => k (.int .u64 (S.rsize a)) []
  | _, _ => none
theorem H67_ok : HndOk Try.prog 67 H67 := hnd_ok tis tisOk mixOk G62_ok F67 Try.func67 rfl (by
  intro R args σ k r h
  unfold H67 at h
  split at h
  · rename_i a; exact ⟨0, (S.rsize_v a _).trans h⟩
  · cases h)
noncomputable def G67 : Env := Env.add 67 H67 G62
theorem G67_ok : EnvOk Try.prog G67 := envAdd_ok H67_ok G62_ok

/-! spinnakerref1.wide -/
def F66 : FCfg := ⟨keepAt [(0, [0, 1]), (1, [0, 1, 6, 7]), (2, [6, 7, 8, 9]), (3, [6, 7, 8, 9, 10]), (4, [4, 5])], loopAt [], []⟩
theorem S.rwide_k {R : Type} (a b : Int) (k : AVal → List Blk → Option R) : fnEval tis F66 0 G67 Try.f66 [.int .u64 a, .int .u64 b] [] k =
  (k (.tuple [.int .u64 (Go.IntKind.wrap .u64 (Go.IntKind.wrap .u64 (Go.IntKind.wrap .u64 (Go.IntKind.wrap .u64 (Int.fdiv a 4294967296 * Int.fdiv b 4294967296) + Int.fdiv (Go.IntKind.wrap .u64 (Int.fdiv a 4294967296 * bitsA Go.BinOp.and .u64 b 4294967295)) 4294967296) + Int.fdiv (Go.IntKind.wrap .u64 (bitsA Go.BinOp.and .u64 a 4294967295 * Int.fdiv b 4294967296)) 4294967296) + Int.fdiv (Go.IntKind.wrap .u64 (Go.IntKind.wrap .u64 (bitsA Go.BinOp.and .u64 (Go.IntKind.wrap .u64 (Int.fdiv a 4294967296 * bitsA Go.BinOp.and .u64 b 4294967295)) 4294967295 + bitsA Go.BinOp.and .u64 (Go.IntKind.wrap .u64 (bitsA Go.BinOp.and .u64 a 4294967295 * Int.fdiv b 4294967296)) 4294967295) + Int.fdiv (Go.IntKind.wrap .u64 (bitsA Go.BinOp.and .u64 a 4294967295 * bitsA Go.BinOp.and .u64 b 4294967295)) 4294967296)) 4294967296)), .int .u64 (bitsA Go.BinOp.or .u64 (Go.IntKind.wrap .u64 (Go.IntKind.wrap .u64 (Go.IntKind.wrap .u64 (bitsA Go.BinOp.and .u64 (Go.IntKind.wrap .u64 (Int.fdiv a 4294967296 * bitsA Go.BinOp.and .u64 b 4294967295)) 4294967295 + bitsA Go.BinOp.and .u64 (Go.IntKind.wrap .u64 (bitsA Go.BinOp.and .u64 a 4294967295 * Int.fdiv b 4294967296)) 4294967295) + Int.fdiv (Go.IntKind.wrap .u64 (bitsA Go.BinOp.and .u64 a 4294967295 * bitsA Go.BinOp.and .u64 b 4294967295)) 4294967296) * 4294967296)) (bitsA Go.BinOp.and .u64 (Go.IntKind.wrap .u64 (bitsA Go.BinOp.and .u64 a 4294967295 * bitsA Go.BinOp.and .u64 b 4294967295)) 4294967295))]) ([])) := by kernel_rfl
noncomputable def S.rwide (a b : Int) : Int × Int :=
  (Go.IntKind.wrap .u64 (Go.IntKind.wrap .u64 (Go.IntKind.wrap .u64 (Go.IntKind.wrap .u64 (Int.fdiv a 4294967296 * Int.fdiv b 4294967296) + Int.fdiv (Go.IntKind.wrap .u64 (Int.fdiv a 4294967296 * bitsA Go.BinOp.and .u64 b 4294967295)) 4294967296) + Int.fdiv (Go.IntKind.wrap .u64 (bitsA Go.BinOp.and .u64 a 4294967295 * Int.fdiv b 4294967296)) 4294967296) + Int.fdiv (Go.IntKind.wrap .u64 (Go.IntKind.wrap .u64 (bitsA Go.BinOp.and .u64 (Go.IntKind.wrap .u64 (Int.fdiv a 4294967296 * bitsA Go.BinOp.and .u64 b 4294967295)) 4294967295 + bitsA Go.BinOp.and .u64 (Go.IntKind.wrap .u64 (bitsA Go.BinOp.and .u64 a 4294967295 * Int.fdiv b 4294967296)) 4294967295) + Int.fdiv (Go.IntKind.wrap .u64 (bitsA Go.BinOp.and .u64 a 4294967295 * bitsA Go.BinOp.and .u64 b 4294967295)) 4294967296)) 4294967296), bitsA Go.BinOp.or .u64 (Go.IntKind.wrap .u64 (Go.IntKind.wrap .u64 (Go.IntKind.wrap .u64 (bitsA Go.BinOp.and .u64 (Go.IntKind.wrap .u64 (Int.fdiv a 4294967296 * bitsA Go.BinOp.and .u64 b 4294967295)) 4294967295 + bitsA Go.BinOp.and .u64 (Go.IntKind.wrap .u64 (bitsA Go.BinOp.and .u64 a 4294967295 * Int.fdiv b 4294967296)) 4294967295) + Int.fdiv (Go.IntKind.wrap .u64 (bitsA Go.BinOp.and .u64 a 4294967295 * bitsA Go.BinOp.and .u64 b 4294967295)) 4294967296) * 4294967296)) (bitsA Go.BinOp.and .u64 (Go.IntKind.wrap .u64 (bitsA Go.BinOp.and .u64 a 4294967295 * bitsA Go.BinOp.and .u64 b 4294967295)) 4294967295))
theorem S.rwide_v {R : Type} (a b : Int) (k : AVal → List Blk → Option R) : fnEval tis F66 0 G67 Try.f66 [.int .u64 a, .int .u64 b] [] k = k (.tuple [(.int .u64 (S.rwide a b).1), (.int .u64 (S.rwide a b).2)]) [] :=
  (S.rwide_k a b k).trans rfl
noncomputable def H66 : Hnd := fun R args σ k => match args, σ with
  | [.int .u64 a, .int .u64 b], [] => k (.tuple [(.int .u64 (S.rwide a b).1), (.int .u64 (S.rwide a b).2)]) []
  | _, _ => none
theorem H66_ok : HndOk Try.prog 66 H66 := hnd_ok tis tisOk mixOk G67_ok F66 Try.func66 rfl (by
  intro R args σ k r h
  unfold H66 at h
  split at h
  · rename_i a b; exact ⟨0, (S.rwide_v a b _).trans h⟩
  · cases h)
noncomputable def G66 : Env := Env.add 66 H66 G67
theorem G66_ok : EnvOk Try.prog G66 := envAdd_ok H66_ok G67_ok

/-! spinnakerref1.thousandth -/
def F68 : FCfg := ⟨keepAt [(0, [0, 1]), (1, [1, 7, 8]), (2, [1, 7, 9]), (3, [7, 9, 10]), (4, [4, 5, 6])], loopAt [], []⟩
theorem S.rthou_k {R : Type} (a b : Int) (k : AVal → List Blk → Option R) : fnEval tis F68 0 G66 Try.f68 [.int .u64 a, .int .u64 b] [] k =
  (k (.tuple [.int .u64 (Go.IntKind.wrap .u64 (Int.tdiv a 1000)), .int .u64 (bitsA Go.BinOp.or .u64 (Go.IntKind.wrap .u64 (Go.IntKind.wrap .u64 (Int.tdiv (bitsA Go.BinOp.or .u64 (Go.IntKind.wrap .u64 (Int.tmod a 1000 * 4294967296)) (Int.fdiv b 4294967296)) 1000) * 4294967296)) (Go.IntKind.wrap .u64 (Int.tdiv (bitsA Go.BinOp.or .u64 (Go.IntKind.wrap .u64 (Int.tmod (bitsA Go.BinOp.or .u64 (Go.IntKind.wrap .u64 (Int.tmod a 1000 * 4294967296)) (Int.fdiv b 4294967296)) 1000 * 4294967296)) (bitsA Go.BinOp.and .u64 b 4294967295)) 1000))), .int .u64 (Int.tmod (bitsA Go.BinOp.or .u64 (Go.IntKind.wrap .u64 (Int.tmod (bitsA Go.BinOp.or .u64 (Go.IntKind.wrap .u64 (Int.tmod a 1000 * 4294967296)) (Int.fdiv b 4294967296)) 1000 * 4294967296)) (bitsA Go.BinOp.and .u64 b 4294967295)) 1000)]) ([])) := by kernel_rfl
noncomputable def S.rthou (a b : Int) : Int × Int × Int :=
  (Go.IntKind.wrap .u64 (Int.tdiv a 1000), bitsA Go.BinOp.or .u64 (Go.IntKind.wrap .u64 (Go.IntKind.wrap .u64 (Int.tdiv (bitsA Go.BinOp.or .u64 (Go.IntKind.wrap .u64 (Int.tmod a 1000 * 4294967296)) (Int.fdiv b 4294967296)) 1000) * 4294967296)) (Go.IntKind.wrap .u64 (Int.tdiv (bitsA Go.BinOp.or .u64 (Go.IntKind.wrap .u64 (Int.tmod (bitsA Go.BinOp.or .u64 (Go.IntKind.wrap .u64 (Int.tmod a 1000 * 4294967296)) (Int.fdiv b 4294967296)) 1000 * 4294967296)) (bitsA Go.BinOp.and .u64 b 4294967295)) 1000)), Int.tmod (bitsA Go.BinOp.or .u64 (Go.IntKind.wrap .u64 (Int.tmod (bitsA Go.BinOp.or .u64 (Go.IntKind.wrap .u64 (Int.tmod a 1000 * 4294967296)) (Int.fdiv b 4294967296)) 1000 * 4294967296)) (bitsA Go.BinOp.and .u64 b 4294967295)) 1000)
theorem S.rthou_v {R : Type} (a b : Int) (k : AVal → List Blk → Option R) : fnEval tis F68 0 G66 Try.f68 [.int .u64 a, .int .u64 b] [] k = k (.tuple [(.int .u64 (S.rthou a b).1), (.int .u64 (S.rthou a b).2.1), (.int .u64 (S.rthou a b).2.2)]) [] :=
  (S.rthou_k a b k).trans rfl
noncomputable def H68 : Hnd := fun R args σ k => match args, σ with
  | [.int .u64 a, .int .u64 b], [] => k (.tuple [(.int .u64 (S.rthou a b).1), (.int .u64 (S.rthou a b).2.1), (.int .u64 (S.rthou a b).2.2)]) []
  | _, _ => none
theorem H68_ok : HndOk Try.prog 68 H68 := hnd_ok tis tisOk mixOk G66_ok F68 Try.func68 rfl (by
  intro R args σ k r h
  unfold H68 at h
  split at h
  · rename_i a b; exact ⟨0, (S.rthou_v a b _).trans h⟩
  · cases h)
noncomputable def G68 : Env := Env.add 68 H68 G66
theorem G68_ok : EnvOk Try.prog G68 := envAdd_ok H68_ok G66_ok
noncomputable def Z_rsize : {f : ∀ (a : Int), Int // f = fun (a : Int) => S.rsize a} := Classical.choice ⟨⟨_, rfl⟩⟩
noncomputable def S.q_rsize (a : Int) : Int := Z_rsize.1 a
theorem S.q_rsize_eq (a : Int) : S.q_rsize a = S.rsize a := by unfold S.q_rsize; rw [Z_rsize.2]
theorem S.q_rsize_v {R : Type} (a : Int) (k : AVal → List Blk → Option R) : fnEval tis F67 0 G62 Try.f67 [.int .i64 a] [] k = k (.int .u64 (S.q_rsize a)) [] :=
  (S.rsize_v a k).trans (by rw [S.q_rsize_eq])
noncomputable def H67s : Hnd := fun R args σ k => match args, σ with
  | [.int .i64 a], [] => k (.int .u64 (S.q_rsize a)) []
  | _, _ => none
theorem H67s_ok : HndOk Try.prog 67 H67s := hnd_ok tis tisOk mixOk G62_ok F67 Try.func67 rfl (by
  intro R args σ k r h
  unfold H67s at h
  split at h
  · rename_i a; exact ⟨0, (S.q_rsize_v a _).trans h⟩
  · cases h)
noncomputable def G67s : Env := Env.add 67 H67s G68
theorem G67s_ok : EnvOk Try.prog G67s := envAdd_ok H67s_ok G68_ok
noncomputable def Z_rwide : {f : ∀ (a b : Int), Int × Int // f = fun (a b : Int) => S.rwide a b} := Classical.choice ⟨⟨_, rfl⟩⟩
noncomputable def S.q_rwide (a b : Int) : Int × Int := Z_rwide.1 a b
theorem S.q_rwide_eq (a b : Int) : S.q_rwide a b = S.rwide a b := by unfold S.q_rwide; rw [Z_rwide.2]
theorem S.q_rwide_v {R : Type} (a b : Int) (k : AVal → List Blk → Option R) : fnEval tis F66 0 G67 Try.f66 [.int .u64 a, .int .u64 b] [] k = k (.tuple [(.int .u64 (S.q_rwide a b).1), (.int .u64 (S.q_rwide a b).2)]) [] :=
  (S.rwide_v a b k).trans (by rw [S.q_rwide_eq])
noncomputable def H66s : Hnd := fun R args σ k => match args, σ with
  | [.int .u64 a, .int .u64 b], [] => k (.tuple [(.int .u64 (S.q_rwide a b).1), (.int .u64 (S.q_rwide a b).2)]) []
  | _, _ => none
theorem H66s_ok : HndOk Try.prog 66 H66s := hnd_ok tis tisOk mixOk G67_ok F66 Try.func66 rfl (by
  intro R args σ k r h
  unfold H66s at h
  split at h
  · rename_i a b; exact ⟨0, (S.q_rwide_v a b _).trans h⟩
  · cases h)
noncomputable def G66s : Env := Env.add 66 H66s G67s
theorem G66s_ok : EnvOk Try.prog G66s := envAdd_ok H66s_ok G67s_ok
noncomputable def Z_rthou : {f : ∀ (a b : Int), Int × Int × Int // f = fun (a b : Int) => S.rthou a b} := Classical.choice ⟨⟨_, rfl⟩⟩
noncomputable def S.q_rthou (a b : Int) : Int × Int × Int := Z_rthou.1 a b
theorem S.q_rthou_eq (a b : Int) : S.q_rthou a b = S.rthou a b := by unfold S.q_rthou; rw [Z_rthou.2]
theorem S.q_rthou_v {R : Type} (a b : Int) (k : AVal → List Blk → Option R) : fnEval tis F68 0 G66 Try.f68 [.int .u64 a, .int .u64 b] [] k = k (.tuple [(.int .u64 (S.q_rthou a b).1), (.int .u64 (S.q_rthou a b).2.1), (.int .u64 (S.q_rthou a b).2.2)]) [] :=
  (S.rthou_v a b k).trans (by rw [S.q_rthou_eq])
noncomputable def H68s : Hnd := fun R args σ k => match args, σ with
  | [.int .u64 a, .int .u64 b], [] => k (.tuple [(.int .u64 (S.q_rthou a b).1), (.int .u64 (S.q_rthou a b).2.1), (.int .u64 (S.q_rthou a b).2.2)]) []
  | _, _ => none
theorem H68s_ok : HndOk Try.prog 68 H68s := hnd_ok tis tisOk mixOk G66_ok F68 Try.func68 rfl (by
  intro R args σ k r h
  unfold H68s at h
  split at h
  · rename_i a b; exact ⟨0, (S.q_rthou_v a b _).trans h⟩
  · cases h)
noncomputable def G68s : Env := Env.add 68 H68s G66s
theorem G68s_ok : EnvOk Try.prog G68s := envAdd_ok H68s_ok G66s_ok

/-! spinnakerref1.Mul -/
def F48 : FCfg := ⟨keepAt [(0, [0, 1]), (1, [0, 1, 6, 7]), (2, [0, 1, 8, 9, 10]), (3, [8, 9, 10, 11]), (4, [8, 9, 10, 41]), (5, [9, 47]), (6, [4, 5]), (7, [4, 5]), (8, [8, 9, 51]), (9, [8, 9]), (10, [8, 9, 55]), (11, [8, 9]), (12, [9, 63]), (13, [4, 5]), (14, [4, 5])], loopAt [], []⟩
theorem S.rmul_k {R : Type} (a b : Int) (k : AVal → List Blk → Option R) : fnEval tis F48 0 G68s Try.f48 [.int .i64 a, .int .i64 b] [] k =
  (bif !decide (a < 0) == decide (b < 0) then
   bif !decide (a = 0) then
   bif !!decide (b = 0) then
   bif decide (0 < Prod.fst (S.q_rthou (Prod.fst (S.q_rwide (S.q_rsize a) (S.q_rsize b))) (Prod.snd (S.q_rwide (S.q_rsize a) (S.q_rsize b))))) then
   k (.tuple [.int .i64 9223372036854775807, .int .i64 2]) ([])
 else
   bif decide (9223372036854775807 < Prod.fst (Prod.snd (S.q_rthou (Prod.fst (S.q_rwide (S.q_rsize a) (S.q_rsize b))) (Prod.snd (S.q_rwide (S.q_rsize a) (S.q_rsize b)))))) then
   k (.tuple [.int .i64 9223372036854775807, .int .i64 2]) ([])
 else
   k (.tuple [.int .i64 (Go.IntKind.wrap .i64 (Prod.fst (Prod.snd (S.q_rthou (Prod.fst (S.q_rwide (S.q_rsize a) (S.q_rsize b))) (Prod.snd (S.q_rwide (S.q_rsize a) (S.q_rsize b))))))), .int .i64 0]) ([])
 else
   bif decide (0 < Prod.snd (Prod.snd (S.q_rthou (Prod.fst (S.q_rwide (S.q_rsize a) (S.q_rsize b))) (Prod.snd (S.q_rwide (S.q_rsize a) (S.q_rsize b)))))) then
   bif decide (Go.IntKind.wrap .u64 (Prod.fst (Prod.snd (S.q_rthou (Prod.fst (S.q_rwide (S.q_rsize a) (S.q_rsize b))) (Prod.snd (S.q_rwide (S.q_rsize a) (S.q_rsize b))))) + 1) = 0) then
   bif decide (0 < Go.IntKind.wrap .u64 (Prod.fst (S.q_rthou (Prod.fst (S.q_rwide (S.q_rsize a) (S.q_rsize b))) (Prod.snd (S.q_rwide (S.q_rsize a) (S.q_rsize b)))) + 1)) then
   k (.tuple [.int .i64 (-9223372036854775808), .int .i64 2]) ([])
 else
   bif decide (9223372036854775808 < Go.IntKind.wrap .u64 (Prod.fst (Prod.snd (S.q_rthou (Prod.fst (S.q_rwide (S.q_rsize a) (S.q_rsize b))) (Prod.snd (S.q_rwide (S.q_rsize a) (S.q_rsize b))))) + 1)) then
   k (.tuple [.int .i64 (-9223372036854775808), .int .i64 2]) ([])
 else
   k (.tuple [.int .i64 (Go.IntKind.wrap .i64 (Go.IntKind.wrap .u64 (0 - Go.IntKind.wrap .u64 (Prod.fst (Prod.snd (S.q_rthou (Prod.fst (S.q_rwide (S.q_rsize a) (S.q_rsize b))) (Prod.snd (S.q_rwide (S.q_rsize a) (S.q_rsize b))))) + 1)))), .int .i64 0]) ([])
 else
   bif decide (0 < Prod.fst (S.q_rthou (Prod.fst (S.q_rwide (S.q_rsize a) (S.q_rsize b))) (Prod.snd (S.q_rwide (S.q_rsize a) (S.q_rsize b))))) then
   k (.tuple [.int .i64 (-9223372036854775808), .int .i64 2]) ([])
 else
   bif decide (9223372036854775808 < Go.IntKind.wrap .u64 (Prod.fst (Prod.snd (S.q_rthou (Prod.fst (S.q_rwide (S.q_rsize a) (S.q_rsize b))) (Prod.snd (S.q_rwide (S.q_rsize a) (S.q_rsize b))))) + 1)) then
   k (.tuple [.int .i64 (-9223372036854775808), .int .i64 2]) ([])
 else
   k (.tuple [.int .i64 (Go.IntKind.wrap .i64 (Go.IntKind.wrap .u64 (0 - Go.IntKind.wrap .u64 (Prod.fst (Prod.snd (S.q_rthou (Prod.fst (S.q_rwide (S.q_rsize a) (S.q_rsize b))) (Prod.snd (S.q_rwide (S.q_rsize a) (S.q_rsize b))))) + 1)))), .int .i64 0]) ([])
 else
   bif decide (0 < Prod.fst (S.q_rthou (Prod.fst (S.q_rwide (S.q_rsize a) (S.q_rsize b))) (Prod.snd (S.q_rwide (S.q_rsize a) (S.q_rsize b))))) then
   k (.tuple [.int .i64 (-9223372036854775808), .int .i64 2]) ([])
 else
   bif decide (9223372036854775808 < Prod.fst (Prod.snd (S.q_rthou (Prod.fst (S.q_rwide (S.q_rsize a) (S.q_rsize b))) (Prod.snd (S.q_rwide (S.q_rsize a) (S.q_rsize b)))))) then
   k (.tuple [.int .i64 (-9223372036854775808), .int .i64 2]) ([])
 else
   k (.tuple [.int .i64 (Go.IntKind.wrap .i64 (Go.IntKind.wrap .u64 (0 - Prod.fst (Prod.snd (S.q_rthou (Prod.fst (S.q_rwide (S.q_rsize a) (S.q_rsize b))) (Prod.snd (S.q_rwide (S.q_rsize a) (S.q_rsize b)))))))), .int .i64 0]) ([])
 else
   bif decide (0 < Prod.fst (S.q_rthou (Prod.fst (S.q_rwide (S.q_rsize a) (S.q_rsize b))) (Prod.snd (S.q_rwide (S.q_rsize a) (S.q_rsize b))))) then
   k (.tuple [.int .i64 9223372036854775807, .int .i64 2]) ([])
 else
   bif decide (9223372036854775807 < Prod.fst (Prod.snd (S.q_rthou (Prod.fst (S.q_rwide (S.q_rsize a) (S.q_rsize b))) (Prod.snd (S.q_rwide (S.q_rsize a) (S.q_rsize b)))))) then
   k (.tuple [.int .i64 9223372036854775807, .int .i64 2]) ([])
 else
   k (.tuple [.int .i64 (Go.IntKind.wrap .i64 (Prod.fst (Prod.snd (S.q_rthou (Prod.fst (S.q_rwide (S.q_rsize a) (S.q_rsize b))) (Prod.snd (S.q_rwide (S.q_rsize a) (S.q_rsize b))))))), .int .i64 0]) ([])
 else
   bif decide (0 < Prod.fst (S.q_rthou (Prod.fst (S.q_rwide (S.q_rsize a) (S.q_rsize b))) (Prod.snd (S.q_rwide (S.q_rsize a) (S.q_rsize b))))) then
   k (.tuple [.int .i64 9223372036854775807, .int .i64 2]) ([])
 else
   bif decide (9223372036854775807 < Prod.fst (Prod.snd (S.q_rthou (Prod.fst (S.q_rwide (S.q_rsize a) (S.q_rsize b))) (Prod.snd (S.q_rwide (S.q_rsize a) (S.q_rsize b)))))) then
   k (.tuple [.int .i64 9223372036854775807, .int .i64 2]) ([])
 else
   k (.tuple [.int .i64 (Go.IntKind.wrap .i64 (Prod.fst (Prod.snd (S.q_rthou (Prod.fst (S.q_rwide (S.q_rsize a) (S.q_rsize b))) (Prod.snd (S.q_rwide (S.q_rsize a) (S.q_rsize b))))))), .int .i64 0]) ([])) := by kernel_rfl
noncomputable def S.rmul (a b : Int) : Int × Int :=
  bif !decide (a < 0) == decide (b < 0) then
   bif !decide (a = 0) then
   bif !!decide (b = 0) then
   bif decide (0 < Prod.fst (S.q_rthou (Prod.fst (S.q_rwide (S.q_rsize a) (S.q_rsize b))) (Prod.snd (S.q_rwide (S.q_rsize a) (S.q_rsize b))))) then
   (9223372036854775807, 2)
 else
   bif decide (9223372036854775807 < Prod.fst (Prod.snd (S.q_rthou (Prod.fst (S.q_rwide (S.q_rsize a) (S.q_rsize b))) (Prod.snd (S.q_rwide (S.q_rsize a) (S.q_rsize b)))))) then
   (9223372036854775807, 2)
 else
   (Go.IntKind.wrap .i64 (Prod.fst (Prod.snd (S.q_rthou (Prod.fst (S.q_rwide (S.q_rsize a) (S.q_rsize b))) (Prod.snd (S.q_rwide (S.q_rsize a) (S.q_rsize b)))))), 0)
 else
   bif decide (0 < Prod.snd (Prod.snd (S.q_rthou (Prod.fst (S.q_rwide (S.q_rsize a) (S.q_rsize b))) (Prod.snd (S.q_rwide (S.q_rsize a) (S.q_rsize b)))))) then
   bif decide (Go.IntKind.wrap .u64 (Prod.fst (Prod.snd (S.q_rthou (Prod.fst (S.q_rwide (S.q_rsize a) (S.q_rsize b))) (Prod.snd (S.q_rwide (S.q_rsize a) (S.q_rsize b))))) + 1) = 0) then
   bif decide (0 < Go.IntKind.wrap .u64 (Prod.fst (S.q_rthou (Prod.fst (S.q_rwide (S.q_rsize a) (S.q_rsize b))) (Prod.snd (S.q_rwide (S.q_rsize a) (S.q_rsize b)))) + 1)) then
   (-9223372036854775808, 2)
 else
   bif decide (9223372036854775808 < Go.IntKind.wrap .u64 (Prod.fst (Prod.snd (S.q_rthou (Prod.fst (S.q_rwide (S.q_rsize a) (S.q_rsize b))) (Prod.snd (S.q_rwide (S.q_rsize a) (S.q_rsize b))))) + 1)) then
   (-9223372036854775808, 2)
 else
   (Go.IntKind.wrap .i64 (Go.IntKind.wrap .u64 (0 - Go.IntKind.wrap .u64 (Prod.fst (Prod.snd (S.q_rthou (Prod.fst (S.q_rwide (S.q_rsize a) (S.q_rsize b))) (Prod.snd (S.q_rwide (S.q_rsize a) (S.q_rsize b))))) + 1))), 0)
 else
   bif decide (0 < Prod.fst (S.q_rthou (Prod.fst (S.q_rwide (S.q_rsize a) (S.q_rsize b))) (Prod.snd (S.q_rwide (S.q_rsize a) (S.q_rsize b))))) then
   (-9223372036854775808, 2)
 else
   bif decide (9223372036854775808 < Go.IntKind.wrap .u64 (Prod.fst (Prod.snd (S.q_rthou (Prod.fst (S.q_rwide (S.q_rsize a) (S.q_rsize b))) (Prod.snd (S.q_rwide (S.q_rsize a) (S.q_rsize b))))) + 1)) then
   (-9223372036854775808, 2)
 else
   (Go.IntKind.wrap .i64 (Go.IntKind.wrap .u64 (0 - Go.IntKind.wrap .u64 (Prod.fst (Prod.snd (S.q_rthou (Prod.fst (S.q_rwide (S.q_rsize a) (S.q_rsize b))) (Prod.snd (S.q_rwide (S.q_rsize a) (S.q_rsize b))))) + 1))), 0)
 else
   bif decide (0 < Prod.fst (S.q_rthou (Prod.fst (S.q_rwide (S.q_rsize a) (S.q_rsize b))) (Prod.snd (S.q_rwide (S.q_rsize a) (S.q_rsize b))))) then
   (-9223372036854775808, 2)
 else
   bif decide (9223372036854775808 < Prod.fst (Prod.snd (S.q_rthou (Prod.fst (S.q_rwide (S.q_rsize a) (S.q_rsize b))) (Prod.snd (S.q_rwide (S.q_rsize a) (S.q_rsize b)))))) then
   (-9223372036854775808, 2)
 else
   (Go.IntKind.wrap .i64 (Go.IntKind.wrap .u64 (0 - Prod.fst (Prod.snd (S.q_rthou (Prod.fst (S.q_rwide (S.q_rsize a) (S.q_rsize b))) (Prod.snd (S.q_rwide (S.q_rsize a) (S.q_rsize b))))))), 0)
 else
   bif decide (0 < Prod.fst (S.q_rthou (Prod.fst (S.q_rwide (S.q_rsize a) (S.q_rsize b))) (Prod.snd (S.q_rwide (S.q_rsize a) (S.q_rsize b))))) then
   (9223372036854775807, 2)
 else
   bif decide (9223372036854775807 < Prod.fst (Prod.snd (S.q_rthou (Prod.fst (S.q_rwide (S.q_rsize a) (S.q_rsize b))) (Prod.snd (S.q_rwide (S.q_rsize a) (S.q_rsize b)))))) then
   (9223372036854775807, 2)
 else
   (Go.IntKind.wrap .i64 (Prod.fst (Prod.snd (S.q_rthou (Prod.fst (S.q_rwide (S.q_rsize a) (S.q_rsize b))) (Prod.snd (S.q_rwide (S.q_rsize a) (S.q_rsize b)))))), 0)
 else
   bif decide (0 < Prod.fst (S.q_rthou (Prod.fst (S.q_rwide (S.q_rsize a) (S.q_rsize b))) (Prod.snd (S.q_rwide (S.q_rsize a) (S.q_rsize b))))) then
   (9223372036854775807, 2)
 else
   bif decide (9223372036854775807 < Prod.fst (Prod.snd (S.q_rthou (Prod.fst (S.q_rwide (S.q_rsize a) (S.q_rsize b))) (Prod.snd (S.q_rwide (S.q_rsize a) (S.q_rsize b)))))) then
   (9223372036854775807, 2)
 else
   (Go.IntKind.wrap .i64 (Prod.fst (Prod.snd (S.q_rthou (Prod.fst (S.q_rwide (S.q_rsize a) (S.q_rsize b))) (Prod.snd (S.q_rwide (S.q_rsize a) (S.q_rsize b)))))), 0)
noncomputable def S.rmul_gk {R : Type} (a b : Int) (k : AVal → List Blk → Option R) : (Int × Int) → Option R := (fun v : Int × Int => k (.tuple [(.int .i64 v.1), (.int .i64 v.2)]) [])
theorem S.rmul_v {R : Type} (a b : Int) (k : AVal → List Blk → Option R) : fnEval tis F48 0 G68s Try.f48 [.int .i64 a, .int .i64 b] [] k = k (.tuple [(.int .i64 (S.rmul a b).1), (.int .i64 (S.rmul a b).2)]) [] :=
  (S.rmul_k a b k).trans (bif_lift (f := (S.rmul_gk a b k)) (bif_lift (f := (S.rmul_gk a b k)) (bif_lift (f := (S.rmul_gk a b k)) (bif_lift (f := (S.rmul_gk a b k)) rfl (bif_lift (f := (S.rmul_gk a b k)) rfl rfl)) (bif_lift (f := (S.rmul_gk a b k)) (bif_lift (f := (S.rmul_gk a b k)) (bif_lift (f := (S.rmul_gk a b k)) rfl (bif_lift (f := (S.rmul_gk a b k)) rfl rfl)) (bif_lift (f := (S.rmul_gk a b k)) rfl (bif_lift (f := (S.rmul_gk a b k)) rfl rfl))) (bif_lift (f := (S.rmul_gk a b k)) rfl (bif_lift (f := (S.rmul_gk a b k)) rfl rfl)))) (bif_lift (f := (S.rmul_gk a b k)) rfl (bif_lift (f := (S.rmul_gk a b k)) rfl rfl))) (bif_lift (f := (S.rmul_gk a b k)) rfl (bif_lift (f := (S.rmul_gk a b k)) rfl rfl)))
noncomputable def H48 : Hnd := fun R args σ k => match args, σ with
  | [.int .i64 a, .int .i64 b], [] => k (.tuple [(.int .i64 (S.rmul a b).1), (.int .i64 (S.rmul a b).2)]) []
  | _, _ => none
theorem H48_ok : HndOk Try.prog 48 H48 := hnd_ok tis tisOk mixOk G68s_ok F48 Try.func48 rfl (by
  intro R args σ k r h
  unfold H48 at h
  split at h
  · rename_i a b; exact ⟨0, (S.rmul_v a b _).trans h⟩
  · cases h)
noncomputable def G48 : Env := Env.add 48 H48 G68s
theorem G48_ok : EnvOk Try.prog G48 := envAdd_ok H48_ok G68s_ok

/-! spinnakerref1.Up -/
def F44 : FCfg := ⟨keepAt [(0, [0, 1]), (1, [0, 1, 7]), (2, [4, 5]), (3, [0, 1, 10]), (4, [4, 5]), (5, [0, 1, 6]), (6, [6, 30]), (7, [6]), (8, [4, 5])], loopAt [], []⟩
theorem S.rup_k {R : Type} (a b : Int) (k : AVal → List Blk → Option R) : fnEval tis F44 0 G48 Try.f44 [.int .i64 a, .int .i64 b] [] k =
  (bif decide (b = 0) then
   k (.tuple [.int .i64 0, .int .i64 3]) ([])
 else
   bif decide (a = -9223372036854775808) then
   bif decide (b = -1) then
   k (.tuple [.int .i64 9223372036854775807, .int .i64 2]) ([])
 else
   bif decide (b = 0) then
   none
 else
   bif decide (b = 0) then
   none
 else
   bif !decide (Int.tmod a b = 0) then
   bif decide (a < 0) == decide (b < 0) then
   k (.tuple [.int .i64 (Go.IntKind.wrap .i64 (Go.IntKind.wrap .i64 (Int.tdiv a b) + 1)), .int .i64 0]) ([])
 else
   k (.tuple [.int .i64 (Go.IntKind.wrap .i64 (Int.tdiv a b)), .int .i64 0]) ([])
 else
   k (.tuple [.int .i64 (Go.IntKind.wrap .i64 (Int.tdiv a b)), .int .i64 0]) ([])
 else
   bif decide (b = 0) then
   none
 else
   bif decide (b = 0) then
   none
 else
   bif !decide (Int.tmod a b = 0) then
   bif decide (a < 0) == decide (b < 0) then
   k (.tuple [.int .i64 (Go.IntKind.wrap .i64 (Go.IntKind.wrap .i64 (Int.tdiv a b) + 1)), .int .i64 0]) ([])
 else
   k (.tuple [.int .i64 (Go.IntKind.wrap .i64 (Int.tdiv a b)), .int .i64 0]) ([])
 else
   k (.tuple [.int .i64 (Go.IntKind.wrap .i64 (Int.tdiv a b)), .int .i64 0]) ([])) := by kernel_rfl
noncomputable def S.rup (a b : Int) : Option (Int × Int) :=
  bif decide (b = 0) then
   some (0, 3)
 else
   bif decide (a = -9223372036854775808) then
   bif decide (b = -1) then
   some (9223372036854775807, 2)
 else
   bif decide (b = 0) then
   none
 else
   bif decide (b = 0) then
   none
 else
   bif !decide (Int.tmod a b = 0) then
   bif decide (a < 0) == decide (b < 0) then
   some (Go.IntKind.wrap .i64 (Go.IntKind.wrap .i64 (Int.tdiv a b) + 1), 0)
 else
   some (Go.IntKind.wrap .i64 (Int.tdiv a b), 0)
 else
   some (Go.IntKind.wrap .i64 (Int.tdiv a b), 0)
 else
   bif decide (b = 0) then
   none
 else
   bif decide (b = 0) then
   none
 else
   bif !decide (Int.tmod a b = 0) then
   bif decide (a < 0) == decide (b < 0) then
   some (Go.IntKind.wrap .i64 (Go.IntKind.wrap .i64 (Int.tdiv a b) + 1), 0)
 else
   some (Go.IntKind.wrap .i64 (Int.tdiv a b), 0)
 else
   some (Go.IntKind.wrap .i64 (Int.tdiv a b), 0)
noncomputable def S.rup_gk {R : Type} (a b : Int) (k : AVal → List Blk → Option R) : (Int × Int) → Option R := (fun v : Int × Int => k (.tuple [(.int .i64 v.1), (.int .i64 v.2)]) [])
theorem S.rup_v {R : Type} (a b : Int) (k : AVal → List Blk → Option R) : fnEval tis F44 0 G48 Try.f44 [.int .i64 a, .int .i64 b] [] k = oK (fun v : Int × Int => k (.tuple [(.int .i64 v.1), (.int .i64 v.2)]) []) (S.rup a b) :=
  (S.rup_k a b k).trans (bif_lift (f := (oK (S.rup_gk a b k))) rfl (bif_lift (f := (oK (S.rup_gk a b k))) (bif_lift (f := (oK (S.rup_gk a b k))) rfl (bif_lift (f := (oK (S.rup_gk a b k))) rfl (bif_lift (f := (oK (S.rup_gk a b k))) rfl (bif_lift (f := (oK (S.rup_gk a b k))) (bif_lift (f := (oK (S.rup_gk a b k))) rfl rfl) rfl)))) (bif_lift (f := (oK (S.rup_gk a b k))) rfl (bif_lift (f := (oK (S.rup_gk a b k))) rfl (bif_lift (f := (oK (S.rup_gk a b k))) (bif_lift (f := (oK (S.rup_gk a b k))) rfl rfl) rfl)))))
noncomputable def H44 : Hnd := fun R args σ k => match args, σ with
  | [.int .i64 a, .int .i64 b], [] => oK (fun v : Int × Int => k (.tuple [(.int .i64 v.1), (.int .i64 v.2)]) []) (S.rup a b)
  | _, _ => none
theorem H44_ok : HndOk Try.prog 44 H44 := hnd_ok tis tisOk mixOk G48_ok F44 Try.func44 rfl (by
  intro R args σ k r h
  unfold H44 at h
  split at h
  · rename_i a b; exact ⟨0, (S.rup_v a b _).trans h⟩
  · cases h)
noncomputable def G44 : Env := Env.add 44 H44 G48
theorem G44_ok : EnvOk Try.prog G44 := envAdd_ok H44_ok G48_ok

/-! spinnakerref1.Add -/
def F59 : FCfg := ⟨keepAt [(0, [0, 1]), (1, [0, 1, 13]), (2, [4, 5]), (3, [0, 1, 21]), (4, [4, 5]), (5, [4, 5])], loopAt [], []⟩
theorem S.radd_k {R : Type} (a b : Int) (k : AVal → List Blk → Option R) : fnEval tis F59 0 G44 Try.f59 [.int .i64 a, .int .i64 b] [] k =
  (bif decide (0 < b) then
   bif decide (Go.IntKind.wrap .i64 (9223372036854775807 - b) < a) then
   k (.tuple [.int .i64 9223372036854775807, .int .i64 2]) ([])
 else
   bif decide (b < 0) then
   bif decide (a < Go.IntKind.wrap .i64 (-9223372036854775808 - b)) then
   k (.tuple [.int .i64 (-9223372036854775808), .int .i64 2]) ([])
 else
   k (.tuple [.int .i64 (Go.IntKind.wrap .i64 (a + b)), .int .i64 0]) ([])
 else
   k (.tuple [.int .i64 (Go.IntKind.wrap .i64 (a + b)), .int .i64 0]) ([])
 else
   bif decide (b < 0) then
   bif decide (a < Go.IntKind.wrap .i64 (-9223372036854775808 - b)) then
   k (.tuple [.int .i64 (-9223372036854775808), .int .i64 2]) ([])
 else
   k (.tuple [.int .i64 (Go.IntKind.wrap .i64 (a + b)), .int .i64 0]) ([])
 else
   k (.tuple [.int .i64 (Go.IntKind.wrap .i64 (a + b)), .int .i64 0]) ([])) := by kernel_rfl
noncomputable def S.radd (a b : Int) : Int × Int :=
  bif decide (0 < b) then
   bif decide (Go.IntKind.wrap .i64 (9223372036854775807 - b) < a) then
   (9223372036854775807, 2)
 else
   bif decide (b < 0) then
   bif decide (a < Go.IntKind.wrap .i64 (-9223372036854775808 - b)) then
   (-9223372036854775808, 2)
 else
   (Go.IntKind.wrap .i64 (a + b), 0)
 else
   (Go.IntKind.wrap .i64 (a + b), 0)
 else
   bif decide (b < 0) then
   bif decide (a < Go.IntKind.wrap .i64 (-9223372036854775808 - b)) then
   (-9223372036854775808, 2)
 else
   (Go.IntKind.wrap .i64 (a + b), 0)
 else
   (Go.IntKind.wrap .i64 (a + b), 0)
noncomputable def S.radd_gk {R : Type} (a b : Int) (k : AVal → List Blk → Option R) : (Int × Int) → Option R := (fun v : Int × Int => k (.tuple [(.int .i64 v.1), (.int .i64 v.2)]) [])
theorem S.radd_v {R : Type} (a b : Int) (k : AVal → List Blk → Option R) : fnEval tis F59 0 G44 Try.f59 [.int .i64 a, .int .i64 b] [] k = k (.tuple [(.int .i64 (S.radd a b).1), (.int .i64 (S.radd a b).2)]) [] :=
  (S.radd_k a b k).trans (bif_lift (f := (S.radd_gk a b k)) (bif_lift (f := (S.radd_gk a b k)) rfl (bif_lift (f := (S.radd_gk a b k)) (bif_lift (f := (S.radd_gk a b k)) rfl rfl) rfl)) (bif_lift (f := (S.radd_gk a b k)) (bif_lift (f := (S.radd_gk a b k)) rfl rfl) rfl))
noncomputable def H59 : Hnd := fun R args σ k => match args, σ with
  | [.int .i64 a, .int .i64 b], [] => k (.tuple [(.int .i64 (S.radd a b).1), (.int .i64 (S.radd a b).2)]) []
  | _, _ => none
theorem H59_ok : HndOk Try.prog 59 H59 := hnd_ok tis tisOk mixOk G44_ok F59 Try.func59 rfl (by
  intro R args σ k r h
  unfold H59 at h
  split at h
  · rename_i a b; exact ⟨0, (S.radd_v a b _).trans h⟩
  · cases h)
noncomputable def G59 : Env := Env.add 59 H59 G44
theorem G59_ok : EnvOk Try.prog G59 := envAdd_ok H59_ok G44_ok

/-! spinnakerref1.Clamp -/
def F45 : FCfg := ⟨keepAt [(0, [0, 1, 2]), (1, [0, 1, 2, 9]), (2, [6]), (3, [0, 1, 13]), (4, [6]), (5, [6])], loopAt [], []⟩
theorem S.rclamp_k {R : Type} (a lo hi : Int) (k : AVal → List Blk → Option R) : fnEval tis F45 0 G59 Try.f45 [.int .i64 a, .int .i64 lo, .int .i64 hi] [] k =
  (bif decide (hi < a) then
   k (.int .i64 hi) ([])
 else
   bif decide (a < lo) then
   k (.int .i64 lo) ([])
 else
   k (.int .i64 a) ([])) := by kernel_rfl
noncomputable def S.rclamp (a lo hi : Int) : Int :=
  bif decide (hi < a) then
   (hi)
 else
   bif decide (a < lo) then
   (lo)
 else
   (a)
noncomputable def S.rclamp_gk {R : Type} (a lo hi : Int) (k : AVal → List Blk → Option R) : (Int) → Option R := (fun v : Int => k (.int .i64 v) [])
theorem S.rclamp_v {R : Type} (a lo hi : Int) (k : AVal → List Blk → Option R) : fnEval tis F45 0 G59 Try.f45 [.int .i64 a, .int .i64 lo, .int .i64 hi] [] k = k (.int .i64 (S.rclamp a lo hi)) [] :=
  (S.rclamp_k a lo hi k).trans (bif_lift (f := (S.rclamp_gk a lo hi k)) rfl (bif_lift (f := (S.rclamp_gk a lo hi k)) rfl rfl))
noncomputable def H45 : Hnd := fun R args σ k => match args, σ with
  | [.int .i64 a, .int .i64 lo, .int .i64 hi], [] => k (.int .i64 (S.rclamp a lo hi)) []
  | _, _ => none
theorem H45_ok : HndOk Try.prog 45 H45 := hnd_ok tis tisOk mixOk G59_ok F45 Try.func45 rfl (by
  intro R args σ k r h
  unfold H45 at h
  split at h
  · rename_i a lo hi; exact ⟨0, (S.rclamp_v a lo hi _).trans h⟩
  · cases h)
noncomputable def G45 : Env := Env.add 45 H45 G59
theorem G45_ok : EnvOk Try.prog G45 := envAdd_ok H45_ok G59_ok
end Go.Proofs.Ytdflpflffccmgaa.AB
