/- The document's functions of layer 1 that are used, as plain functions. -/
import Derived.Test.YtdgipcjigbagfaaSmilli
namespace Go.Proofs.Ytdgipcjigbagfaa.AB
set_option linter.unusedVariables false

/-! spinnakerref1.size -/
def F58 : FCfg := ⟨keepAt [(0, [0]), (1, [0, 4]), (2, [2]), (3, [2])], loopAt [], []⟩
theorem S.rsize_k {R : Type} (a : Int) (k : AVal → List Blk → Option R) : fnEval tis F58 0 G61 Try.f58 [.int .i64 a] [] k =
  (bif decide (a < 0) then
   k (.int .u64 (Go.IntKind.wrap .u64 (Go.IntKind.wrap .u64 (Go.IntKind.wrap .i64 (0 - Go.IntKind.wrap .i64 (a + 1))) + 1))) ([])
 else
   k (.int .u64 (Go.IntKind.wrap .u64 a)) ([])) := by kernel_rfl
noncomputable def S.rsize (a : Int) : Int :=
  bif decide (a < 0) then
   (Go.IntKind.wrap .u64 (Go.IntKind.wrap .u64 (Go.IntKind.wrap .i64 (0 - Go.IntKind.wrap .i64 (a + 1))) + 1))
 else
   (Go.IntKind.wrap .u64 a)
noncomputable def S.rsize_gk {R : Type} (a : Int) (k : AVal → List Blk → Option R) : (Int) → Option R := (fun v : Int => k (.int .u64 v) [])
theorem S.rsize_v {R : Type} (a : Int) (k : AVal → List Blk → Option R) : fnEval tis F58 0 G61 Try.f58 [.int .i64 a] [] k = k (.int .u64 (S.rsize a)) [] :=
  (S.rsize_k a k).trans (bif_lift (f := (S.rsize_gk a k)) rfl rfl)
noncomputable def H58 : Hnd := fun R args σ k => match args, σ with
  | [.int .i64 a], [] => k (.int .u64 (S.rsize a)) []
  | _, _ => none
theorem H58_ok : HndOk Try.prog 58 H58 := hnd_ok tis tisOk mixOk G61_ok F58 Try.func58 rfl (by
  intro R args σ k r h
  unfold H58 at h
  split at h
  · rename_i a; exact ⟨0, (S.rsize_v a _).trans h⟩
  · cases h)
noncomputable def G58 : Env := Env.add 58 H58 G61
theorem G58_ok : EnvOk Try.prog G58 := envAdd_ok H58_ok G61_ok

/-! spinnakerref1.wide -/
def F57 : FCfg := ⟨keepAt [(0, [0, 1]), (1, [0, 1, 6, 7]), (2, [6, 7, 8, 9]), (3, [6, 7, 8, 9, 10]), (4, [4, 5])], loopAt [], []⟩
theorem S.rwide_k {R : Type} (a b : Int) (k : AVal → List Blk → Option R) : fnEval tis F57 0 G58 Try.f57 [.int .u64 a, .int .u64 b] [] k =
  (k (.tuple [.int .u64 (Go.IntKind.wrap .u64 (Go.IntKind.wrap .u64 (Go.IntKind.wrap .u64 (Go.IntKind.wrap .u64 (Int.fdiv a 4294967296 * Int.fdiv b 4294967296) + Int.fdiv (Go.IntKind.wrap .u64 (Int.fdiv a 4294967296 * bitsA Go.BinOp.and .u64 b 4294967295)) 4294967296) + Int.fdiv (Go.IntKind.wrap .u64 (bitsA Go.BinOp.and .u64 a 4294967295 * Int.fdiv b 4294967296)) 4294967296) + Int.fdiv (Go.IntKind.wrap .u64 (Go.IntKind.wrap .u64 (bitsA Go.BinOp.and .u64 (Go.IntKind.wrap .u64 (Int.fdiv a 4294967296 * bitsA Go.BinOp.and .u64 b 4294967295)) 4294967295 + bitsA Go.BinOp.and .u64 (Go.IntKind.wrap .u64 (bitsA Go.BinOp.and .u64 a 4294967295 * Int.fdiv b 4294967296)) 4294967295) + Int.fdiv (Go.IntKind.wrap .u64 (bitsA Go.BinOp.and .u64 a 4294967295 * bitsA Go.BinOp.and .u64 b 4294967295)) 4294967296)) 4294967296)), .int .u64 (bitsA Go.BinOp.or .u64 (Go.IntKind.wrap .u64 (Go.IntKind.wrap .u64 (Go.IntKind.wrap .u64 (bitsA Go.BinOp.and .u64 (Go.IntKind.wrap .u64 (Int.fdiv a 4294967296 * bitsA Go.BinOp.and .u64 b 4294967295)) 4294967295 + bitsA Go.BinOp.and .u64 (Go.IntKind.wrap .u64 (bitsA Go.BinOp.and .u64 a 4294967295 * Int.fdiv b 4294967296)) 4294967295) + Int.fdiv (Go.IntKind.wrap .u64 (bitsA Go.BinOp.and .u64 a 4294967295 * bitsA Go.BinOp.and .u64 b 4294967295)) 4294967296) * 4294967296)) (bitsA Go.BinOp.and .u64 (Go.IntKind.wrap .u64 (bitsA Go.BinOp.and .u64 a 4294967295 * bitsA Go.BinOp.and .u64 b 4294967295)) 4294967295))]) ([])) := by kernel_rfl
noncomputable def S.rwide (a b : Int) : Int × Int :=
  (Go.IntKind.wrap .u64 (Go.IntKind.wrap .u64 (Go.IntKind.wrap .u64 (Go.IntKind.wrap .u64 (Int.fdiv a 4294967296 * Int.fdiv b 4294967296) + Int.fdiv (Go.IntKind.wrap .u64 (Int.fdiv a 4294967296 * bitsA Go.BinOp.and .u64 b 4294967295)) 4294967296) + Int.fdiv (Go.IntKind.wrap .u64 (bitsA Go.BinOp.and .u64 a 4294967295 * Int.fdiv b 4294967296)) 4294967296) + Int.fdiv (Go.IntKind.wrap .u64 (Go.IntKind.wrap .u64 (bitsA Go.BinOp.and .u64 (Go.IntKind.wrap .u64 (Int.fdiv a 4294967296 * bitsA Go.BinOp.and .u64 b 4294967295)) 4294967295 + bitsA Go.BinOp.and .u64 (Go.IntKind.wrap .u64 (bitsA Go.BinOp.and .u64 a 4294967295 * Int.fdiv b 4294967296)) 4294967295) + Int.fdiv (Go.IntKind.wrap .u64 (bitsA Go.BinOp.and .u64 a 4294967295 * bitsA Go.BinOp.and .u64 b 4294967295)) 4294967296)) 4294967296), bitsA Go.BinOp.or .u64 (Go.IntKind.wrap .u64 (Go.IntKind.wrap .u64 (Go.IntKind.wrap .u64 (bitsA Go.BinOp.and .u64 (Go.IntKind.wrap .u64 (Int.fdiv a 4294967296 * bitsA Go.BinOp.and .u64 b 4294967295)) 4294967295 + bitsA Go.BinOp.and .u64 (Go.IntKind.wrap .u64 (bitsA Go.BinOp.and .u64 a 4294967295 * Int.fdiv b 4294967296)) 4294967295) + Int.fdiv (Go.IntKind.wrap .u64 (bitsA Go.BinOp.and .u64 a 4294967295 * bitsA Go.BinOp.and .u64 b 4294967295)) 4294967296) * 4294967296)) (bitsA Go.BinOp.and .u64 (Go.IntKind.wrap .u64 (bitsA Go.BinOp.and .u64 a 4294967295 * bitsA Go.BinOp.and .u64 b 4294967295)) 4294967295))
theorem S.rwide_v {R : Type} (a b : Int) (k : AVal → List Blk → Option R) : fnEval tis F57 0 G58 Try.f57 [.int .u64 a, .int .u64 b] [] k = k (.tuple [(.int .u64 (S.rwide a b).1), (.int .u64 (S.rwide a b).2)]) [] :=
  (S.rwide_k a b k).trans rfl
noncomputable def H57 : Hnd := fun R args σ k => match args, σ with
  | [.int .u64 a, .int .u64 b], [] => k (.tuple [(.int .u64 (S.rwide a b).1), (.int .u64 (S.rwide a b).2)]) []
  | _, _ => none
theorem H57_ok : HndOk Try.prog 57 H57 := hnd_ok tis tisOk mixOk G58_ok F57 Try.func57 rfl (by
  intro R args σ k r h
  unfold H57 at h
  split at h
  · rename_i a b; exact ⟨0, (S.rwide_v a b _).trans h⟩
  · cases h)
noncomputable def G57 : Env := Env.add 57 H57 G58
theorem G57_ok : EnvOk Try.prog G57 := envAdd_ok H57_ok G58_ok

/-! spinnakerref1.thousandth -/
def F59 : FCfg := ⟨keepAt [(0, [0, 1]), (1, [1, 7, 8]), (2, [1, 7, 9]), (3, [7, 9, 10]), (4, [4, 5, 6])], loopAt [], []⟩
theorem S.rthou_k {R : Type} (a b : Int) (k : AVal → List Blk → Option R) : fnEval tis F59 0 G57 Try.f59 [.int .u64 a, .int .u64 b] [] k =
  (k (.tuple [.int .u64 (Go.IntKind.wrap .u64 (Int.tdiv a 1000)), .int .u64 (bitsA Go.BinOp.or .u64 (Go.IntKind.wrap .u64 (Go.IntKind.wrap .u64 (Int.tdiv (bitsA Go.BinOp.or .u64 (Go.IntKind.wrap .u64 (Int.tmod a 1000 * 4294967296)) (Int.fdiv b 4294967296)) 1000) * 4294967296)) (Go.IntKind.wrap .u64 (Int.tdiv (bitsA Go.BinOp.or .u64 (Go.IntKind.wrap .u64 (Int.tmod (bitsA Go.BinOp.or .u64 (Go.IntKind.wrap .u64 (Int.tmod a 1000 * 4294967296)) (Int.fdiv b 4294967296)) 1000 * 4294967296)) (bitsA Go.BinOp.and .u64 b 4294967295)) 1000))), .int .u64 (Int.tmod (bitsA Go.BinOp.or .u64 (Go.IntKind.wrap .u64 (Int.tmod (bitsA Go.BinOp.or .u64 (Go.IntKind.wrap .u64 (Int.tmod a 1000 * 4294967296)) (Int.fdiv b 4294967296)) 1000 * 4294967296)) (bitsA Go.BinOp.and .u64 b 4294967295)) 1000)]) ([])) := by kernel_rfl
noncomputable def S.rthou (a b : Int) : Int × Int × Int :=
  (Go.IntKind.wrap .u64 (Int.tdiv a 1000), bitsA Go.BinOp.or .u64 (Go.IntKind.wrap .u64 (Go.IntKind.wrap .u64 (Int.tdiv (bitsA Go.BinOp.or .u64 (Go.IntKind.wrap .u64 (Int.tmod a 1000 * 4294967296)) (Int.fdiv b 4294967296)) 1000) * 4294967296)) (Go.IntKind.wrap .u64 (Int.tdiv (bitsA Go.BinOp.or .u64 (Go.IntKind.wrap .u64 (Int.tmod (bitsA Go.BinOp.or .u64 (Go.IntKind.wrap .u64 (Int.tmod a 1000 * 4294967296)) (Int.fdiv b 4294967296)) 1000 * 4294967296)) (bitsA Go.BinOp.and .u64 b 4294967295)) 1000)), Int.tmod (bitsA Go.BinOp.or .u64 (Go.IntKind.wrap .u64 (Int.tmod (bitsA Go.BinOp.or .u64 (Go.IntKind.wrap .u64 (Int.tmod a 1000 * 4294967296)) (Int.fdiv b 4294967296)) 1000 * 4294967296)) (bitsA Go.BinOp.and .u64 b 4294967295)) 1000)
theorem S.rthou_v {R : Type} (a b : Int) (k : AVal → List Blk → Option R) : fnEval tis F59 0 G57 Try.f59 [.int .u64 a, .int .u64 b] [] k = k (.tuple [(.int .u64 (S.rthou a b).1), (.int .u64 (S.rthou a b).2.1), (.int .u64 (S.rthou a b).2.2)]) [] :=
  (S.rthou_k a b k).trans rfl
noncomputable def H59 : Hnd := fun R args σ k => match args, σ with
  | [.int .u64 a, .int .u64 b], [] => k (.tuple [(.int .u64 (S.rthou a b).1), (.int .u64 (S.rthou a b).2.1), (.int .u64 (S.rthou a b).2.2)]) []
  | _, _ => none
theorem H59_ok : HndOk Try.prog 59 H59 := hnd_ok tis tisOk mixOk G57_ok F59 Try.func59 rfl (by
  intro R args σ k r h
  unfold H59 at h
  split at h
  · rename_i a b; exact ⟨0, (S.rthou_v a b _).trans h⟩
  · cases h)
noncomputable def G59 : Env := Env.add 59 H59 G57
theorem G59_ok : EnvOk Try.prog G59 := envAdd_ok H59_ok G57_ok
noncomputable def Z_rsize : {f : ∀ (a : Int), Int // f = fun (a : Int) => S.rsize a} := Classical.choice ⟨⟨_, rfl⟩⟩
noncomputable def S.q_rsize (a : Int) : Int := Z_rsize.1 a
theorem S.q_rsize_eq (a : Int) : S.q_rsize a = S.rsize a := by unfold S.q_rsize; rw [Z_rsize.2]
theorem S.q_rsize_v {R : Type} (a : Int) (k : AVal → List Blk → Option R) : fnEval tis F58 0 G61 Try.f58 [.int .i64 a] [] k = k (.int .u64 (S.q_rsize a)) [] :=
  (S.rsize_v a k).trans (by rw [S.q_rsize_eq])
noncomputable def H58s : Hnd := fun R args σ k => match args, σ with
  | [.int .i64 a], [] => k (.int .u64 (S.q_rsize a)) []
  | _, _ => none
theorem H58s_ok : HndOk Try.prog 58 H58s := hnd_ok tis tisOk mixOk G61_ok F58 Try.func58 rfl (by
  intro R args σ k r h
  unfold H58s at h
  split at h
  · rename_i a; exact ⟨0, (S.q_rsize_v a _).trans h⟩
  · cases h)
noncomputable def G58s : Env := Env.add 58 H58s G59
theorem G58s_ok : EnvOk Try.prog G58s := envAdd_ok H58s_ok G59_ok
noncomputable def Z_rwide : {f : ∀ (a b : Int), Int × Int // f = fun (a b : Int) => S.rwide a b} := Classical.choice ⟨⟨_, rfl⟩⟩
noncomputable def S.q_rwide (a b : Int) : Int × Int := Z_rwide.1 a b
theorem S.q_rwide_eq (a b : Int) : S.q_rwide a b = S.rwide a b := by unfold S.q_rwide; rw [Z_rwide.2]
theorem S.q_rwide_v {R : Type} (a b : Int) (k : AVal → List Blk → Option R) : fnEval tis F57 0 G58 Try.f57 [.int .u64 a, .int .u64 b] [] k = k (.tuple [(.int .u64 (S.q_rwide a b).1), (.int .u64 (S.q_rwide a b).2)]) [] :=
  (S.rwide_v a b k).trans (by rw [S.q_rwide_eq])
noncomputable def H57s : Hnd := fun R args σ k => match args, σ with
  | [.int .u64 a, .int .u64 b], [] => k (.tuple [(.int .u64 (S.q_rwide a b).1), (.int .u64 (S.q_rwide a b).2)]) []
  | _, _ => none
theorem H57s_ok : HndOk Try.prog 57 H57s := hnd_ok tis tisOk mixOk G58_ok F57 Try.func57 rfl (by
  intro R args σ k r h
  unfold H57s at h
  split at h
  · rename_i a b; exact ⟨0, (S.q_rwide_v a b _).trans h⟩
  · cases h)
noncomputable def G57s : Env := Env.add 57 H57s G58s
theorem G57s_ok : EnvOk Try.prog G57s := envAdd_ok H57s_ok G58s_ok
noncomputable def Z_rthou : {f : ∀ (a b : Int), Int × Int × Int // f = fun (a b : Int) => S.rthou a b} := Classical.choice ⟨⟨_, rfl⟩⟩
noncomputable def S.q_rthou (a b : Int) : Int × Int × Int := Z_rthou.1 a b
theorem S.q_rthou_eq (a b : Int) : S.q_rthou a b = S.rthou a b := by unfold S.q_rthou; rw [Z_rthou.2]
theorem S.q_rthou_v {R : Type} (a b : Int) (k : AVal → List Blk → Option R) : fnEval tis F59 0 G57 Try.f59 [.int .u64 a, .int .u64 b] [] k = k (.tuple [(.int .u64 (S.q_rthou a b).1), (.int .u64 (S.q_rthou a b).2.1), (.int .u64 (S.q_rthou a b).2.2)]) [] :=
  (S.rthou_v a b k).trans (by rw [S.q_rthou_eq])
noncomputable def H59s : Hnd := fun R args σ k => match args, σ with
  | [.int .u64 a, .int .u64 b], [] => k (.tuple [(.int .u64 (S.q_rthou a b).1), (.int .u64 (S.q_rthou a b).2.1), (.int .u64 (S.q_rthou a b).2.2)]) []
  | _, _ => none
theorem H59s_ok : HndOk Try.prog 59 H59s := hnd_ok tis tisOk mixOk G57_ok F59 Try.func59 rfl (by
  intro R args σ k r h
  unfold H59s at h
  split at h
  · rename_i a b; exact ⟨0, (S.q_rthou_v a b _).trans h⟩
  · cases h)
noncomputable def G59s : Env := Env.add 59 H59s G57s
theorem G59s_ok : EnvOk Try.prog G59s := envAdd_ok H59s_ok G57s_ok

/-! spinnakerref1.Mul -/
def F29 : FCfg := ⟨keepAt [(0, [0, 1]), (1, [0, 1, 6, 7]), (2, [0, 1, 8, 9, 10]), (3, [8, 9, 10, 11]), (4, [8, 9, 10, 41]), (5, [9, 47]), (6, [4, 5]), (7, [4, 5]), (8, [8, 9, 51]), (9, [8, 9]), (10, [8, 9, 55]), (11, [8, 9]), (12, [9, 63]), (13, [4, 5]), (14, [4, 5])], loopAt [], []⟩
theorem S.rmul_k {R : Type} (a b : Int) (k : AVal → List Blk → Option R) : fnEval tis F29 0 G59s Try.f29 [.int .i64 a, .int .i64 b] [] k =
  (bif !decide (a < 0) == decide (b < 0) then
   bif !decide (a = 0) then
   bif !!decide (b = 0) then
   bif decide (0 < Prod.fst (S.q_rthou (Prod.fst (S.q_rwide (S.q_rsize a) (S.q_rsize b))) (Prod.snd (S.q_rwide (S.q_rsize a) (S.q_rsize b))))) then
   k (.tuple [.int .i64 9223372036854775807, .int .i64 2]) ([])
 else
   bif decide (9223372036854775807 < Prod.fst (Prod.snd (S.q_rthou (Prod.fst (S.q_rwide (S.q_rsize a) (S.q_rsize b))) (Prod.snd (S.q_rwide (S.q_rsize a) (S.q_rsize b)))))) then
   k (.tuple [.int .i64 9223372036854775807, .int .i64 2]) ([])
 else
   k (.tuple [.int .i64 (Go.IntKind.wrap .i64 (Prod.fst (Prod.snd (S.q_rthou (Prod.fst (S.q_rwide (S.q_rsize a) (S.q_rsize b))) (Prod.snd (S.q_rwide (S.q_rsize a) (S.q_rsize b))))))), .int .i64 0]) ([])
 else
   bif decide (0 < Prod.snd (Prod.snd (S.q_rthou (Prod.fst (S.q_rwide (S.q_rsize a) (S.q_rsize b))) (Prod.snd (S.q_rwide (S.q_rsize a) (S.q_rsize b)))))) then
   bif decide (Go.IntKind.wrap .u64 (Prod.fst (Prod.snd (S.q_rthou (Prod.fst (S.q_rwide (S.q_rsize a) (S.q_rsize b))) (Prod.snd (S.q_rwide (S.q_rsize a) (S.q_rsize b))))) + 1) = 0) then
   bif decide (0 < Go.IntKind.wrap .u64 (Prod.fst (S.q_rthou (Prod.fst (S.q_rwide (S.q_rsize a) (S.q_rsize b))) (Prod.snd (S.q_rwide (S.q_rsize a) (S.q_rsize b)))) + 1)) then
   k (.tuple [.int .i64 (-9223372036854775808), .int .i64 2]) ([])
 else
   bif decide (9223372036854775808 < Go.IntKind.wrap .u64 (Prod.fst (Prod.snd (S.q_rthou (Prod.fst (S.q_rwide (S.q_rsize a) (S.q_rsize b))) (Prod.snd (S.q_rwide (S.q_rsize a) (S.q_rsize b))))) + 1)) then
   k (.tuple [.int .i64 (-9223372036854775808), .int .i64 2]) ([])
 else
   k (.tuple [.int .i64 (Go.IntKind.wrap .i64 (Go.IntKind.wrap .u64 (0 - Go.IntKind.wrap .u64 (Prod.fst (Prod.snd (S.q_rthou (Prod.fst (S.q_rwide (S.q_rsize a) (S.q_rsize b))) (Prod.snd (S.q_rwide (S.q_rsize a) (S.q_rsize b))))) + 1)))), .int .i64 0]) ([])
 else
   bif decide (0 < Prod.fst (S.q_rthou (Prod.fst (S.q_rwide (S.q_rsize a) (S.q_rsize b))) (Prod.snd (S.q_rwide (S.q_rsize a) (S.q_rsize b))))) then
   k (.tuple [.int .i64 (-9223372036854775808), .int .i64 2]) ([])
 else
   bif decide (9223372036854775808 < Go.IntKind.wrap .u64 (Prod.fst (Prod.snd (S.q_rthou (Prod.fst (S.q_rwide (S.q_rsize a) (S.q_rsize b))) (Prod.snd (S.q_rwide (S.q_rsize a) (S.q_rsize b))))) + 1)) then
   k (.tuple [.int .i64 (-9223372036854775808), .int .i64 2]) ([])
 else
   k (.tuple [.int .i64 (Go.IntKind.wrap .i64 (Go.IntKind.wrap .u64 (0 - Go.IntKind.wrap .u64 (Prod.fst (Prod.snd (S.q_rthou (Prod.fst (S.q_rwide (S.q_rsize a) (S.q_rsize b))) (Prod.snd (S.q_rwide (S.q_rsize a) (S.q_rsize b))))) + 1)))), .int .i64 0]) ([])
 else
   bif decide (0 < Prod.fst (S.q_rthou (Prod.fst (S.q_rwide (S.q_rsize a) (S.q_rsize b))) (Prod.snd (S.q_rwide (S.q_rsize a) (S.q_rsize b))))) then
   k (.tuple [.int .i64 (-9223372036854775808), .int .i64 2]) ([])
 else
   bif decide (9223372036854775808 < Prod.fst (Prod.snd (S.q_rthou (Prod.fst (S.q_rwide (S.q_rsize a) (S.q_rsize b))) (Prod.snd (S.q_rwide (S.q_rsize a) (S.q_rsize b)))))) then
   k (.tuple [.int .i64 (-9223372036854775808), .int .i64 2]) ([])
 else
   k (.tuple [.int .i64 (Go.IntKind.wrap .i64 (Go.IntKind.wrap .u64 (0 - Prod.fst (Prod.snd (S.q_rthou (Prod.fst (S.q_rwide (S.q_rsize a) (S.q_rsize b))) (Prod.snd (S.q_rwide (S.q_rsize a) (S.q_rsize b)))))))), .int .i64 0]) ([])
 else
   bif decide (0 < Prod.fst (S.q_rthou (Prod.fst (S.q_rwide (S.q_rsize a) (S.q_rsize b))) (Prod.snd (S.q_rwide (S.q_rsize a) (S.q_rsize b))))) then
   k (.tuple [.int .i64 9223372036854775807, .int .i64 2]) ([])
 else
   bif decide (9223372036854775807 < Prod.fst (Prod.snd (S.q_rthou (Prod.fst (S.q_rwide (S.q_rsize a) (S.q_rsize b))) (Prod.snd (S.q_rwide (S.q_rsize a) (S.q_rsize b)))))) then
   k (.tuple [.int .i64 9223372036854775807, .int .i64 2]) ([])
 else
   k (.tuple [.int .i64 (Go.IntKind.wrap .i64 (Prod.fst (Prod.snd (S.q_rthou (Prod.fst (S.q_rwide (S.q_rsize a) (S.q_rsize b))) (Prod.snd (S.q_rwide (S.q_rsize a) (S.q_rsize b))))))), .int .i64 0]) ([])
 else
   bif decide (0 < Prod.fst (S.q_rthou (Prod.fst (S.q_rwide (S.q_rsize a) (S.q_rsize b))) (Prod.snd (S.q_rwide (S.q_rsize a) (S.q_rsize b))))) then
   k (.tuple [.int .i64 9223372036854775807, .int .i64 2]) ([])
 else
   bif decide (9223372036854775807 < Prod.fst (Prod.snd (S.q_rthou (Prod.fst (S.q_rwide (S.q_rsize a) (S.q_rsize b))) (Prod.snd (S.q_rwide (S.q_rsize a) (S.q_rsize b)))))) then
   k (.tuple [.int .i64 9223372036854775807, .int .i64 2]) ([])
 else
   k (.tuple [.int .i64 (Go.IntKind.wrap .i64 (Prod.fst (Prod.snd (S.q_rthou (Prod.fst (S.q_rwide (S.q_rsize a) (S.q_rsize b))) (Prod.snd (S.q_rwide (S.q_rsize a) (S.q_rsize b))))))), .int .i64 0]) ([])) := by kernel_rfl
noncomputable def S.rmul (a b : Int) : Int × Int :=
  bif !decide (a < 0) == decide (b < 0) then
   bif !decide (a = 0) then
   bif !!decide (b = 0) then
   bif decide (0 < Prod.fst (S.q_rthou (Prod.fst (S.q_rwide (S.q_rsize a) (S.q_rsize b))) (Prod.snd (S.q_rwide (S.q_rsize a) (S.q_rsize b))))) then
   (9223372036854775807, 2)
 else
   bif decide (9223372036854775807 < Prod.fst (Prod.snd (S.q_rthou (Prod.fst (S.q_rwide (S.q_rsize a) (S.q_rsize b))) (Prod.snd (S.q_rwide (S.q_rsize a) (S.q_rsize b)))))) then
   (9223372036854775807, 2)
 else
   (Go.IntKind.wrap .i64 (Prod.fst (Prod.snd (S.q_rthou (Prod.fst (S.q_rwide (S.q_rsize a) (S.q_rsize b))) (Prod.snd (S.q_rwide (S.q_rsize a) (S.q_rsize b)))))), 0)
 else
   bif decide (0 < Prod.snd (Prod.snd (S.q_rthou (Prod.fst (S.q_rwide (S.q_rsize a) (S.q_rsize b))) (Prod.snd (S.q_rwide (S.q_rsize a) (S.q_rsize b)))))) then
   bif decide (Go.IntKind.wrap .u64 (Prod.fst (Prod.snd (S.q_rthou (Prod.fst (S.q_rwide (S.q_rsize a) (S.q_rsize b))) (Prod.snd (S.q_rwide (S.q_rsize a) (S.q_rsize b))))) + 1) = 0) then
   bif decide (0 < Go.IntKind.wrap .u64 (Prod.fst (S.q_rthou (Prod.fst (S.q_rwide (S.q_rsize a) (S.q_rsize b))) (Prod.snd (S.q_rwide (S.q_rsize a) (S.q_rsize b)))) + 1)) then
   (-9223372036854775808, 2)
 else
   bif decide (9223372036854775808 < Go.IntKind.wrap .u64 (Prod.fst (Prod.snd (S.q_rthou (Prod.fst (S.q_rwide (S.q_rsize a) (S.q_rsize b))) (Prod.snd (S.q_rwide (S.q_rsize a) (S.q_rsize b))))) + 1)) then
   (-9223372036854775808, 2)
 else
   (Go.IntKind.wrap .i64 (Go.IntKind.wrap .u64 (0 - Go.IntKind.wrap .u64 (Prod.fst (Prod.snd (S.q_rthou (Prod.fst (S.q_rwide (S.q_rsize a) (S.q_rsize b))) (Prod.snd (S.q_rwide (S.q_rsize a) (S.q_rsize b))))) + 1))), 0)
 else
   bif decide (0 < Prod.fst (S.q_rthou (Prod.fst (S.q_rwide (S.q_rsize a) (S.q_rsize b))) (Prod.snd (S.q_rwide (S.q_rsize a) (S.q_rsize b))))) then
   (-9223372036854775808, 2)
 else
   bif decide (9223372036854775808 < Go.IntKind.wrap .u64 (Prod.fst (Prod.snd (S.q_rthou (Prod.fst (S.q_rwide (S.q_rsize a) (S.q_rsize b))) (Prod.snd (S.q_rwide (S.q_rsize a) (S.q_rsize b))))) + 1)) then
   (-9223372036854775808, 2)
 else
   (Go.IntKind.wrap .i64 (Go.IntKind.wrap .u64 (0 - Go.IntKind.wrap .u64 (Prod.fst (Prod.snd (S.q_rthou (Prod.fst (S.q_rwide (S.q_rsize a) (S.q_rsize b))) (Prod.snd (S.q_rwide (S.q_rsize a) (S.q_rsize b))))) + 1))), 0)
 else
   bif decide (0 < Prod.fst (S.q_rthou (Prod.fst (S.q_rwide (S.q_rsize a) (S.q_rsize b))) (Prod.snd (S.q_rwide (S.q_rsize a) (S.q_rsize b))))) then
   (-9223372036854775808, 2)
 else
   bif decide (9223372036854775808 < Prod.fst (Prod.snd (S.q_rthou (Prod.fst (S.q_rwide (S.q_rsize a) (S.q_rsize b))) (Prod.snd (S.q_rwide (S.q_rsize a) (S.q_rsize b)))))) then
   (-9223372036854775808, 2)
 else
   (Go.IntKind.wrap .i64 (Go.IntKind.wrap .u64 (0 - Prod.fst (Prod.snd (S.q_rthou (Prod.fst (S.q_rwide (S.q_rsize a) (S.q_rsize b))) (Prod.snd (S.q_rwide (S.q_rsize a) (S.q_rsize b))))))), 0)
 else
   bif decide (0 < Prod.fst (S.q_rthou (Prod.fst (S.q_rwide (S.q_rsize a) (S.q_rsize b))) (Prod.snd (S.q_rwide (S.q_rsize a) (S.q_rsize b))))) then
   (9223372036854775807, 2)
 else
   bif decide (9223372036854775807 < Prod.fst (Prod.snd (S.q_rthou (Prod.fst (S.q_rwide (S.q_rsize a) (S.q_rsize b))) (Prod.snd (S.q_rwide (S.q_rsize a) (S.q_rsize b)))))) then
   (9223372036854775807, 2)
 else
   (Go.IntKind.wrap .i64 (Prod.fst (Prod.snd (S.q_rthou (Prod.fst (S.q_rwide (S.q_rsize a) (S.q_rsize b))) (Prod.snd (S.q_rwide (S.q_rsize a) (S.q_rsize b)))))), 0)
 else
   bif decide (0 < Prod.fst (S.q_rthou (Prod.fst (S.q_rwide (S.q_rsize a) (S.q_rsize b))) (Prod.snd (S.q_rwide (S.q_rsize a) (S.q_rsize b))))) then
   (9223372036854775807, 2)
 else
   bif decide (9223372036854775807 < Prod.fst (Prod.snd (S.q_rthou (Prod.fst (S.q_rwide (S.q_rsize a) (S.q_rsize b))) (Prod.snd (S.q_rwide (S.q_rsize a) (S.q_rsize b)))))) then
   (9223372036854775807, 2)
 else
   (Go.IntKind.wrap .i64 (Prod.fst (Prod.snd (S.q_rthou (Prod.fst (S.q_rwide (S.q_rsize a) (S.q_rsize b))) (Prod.snd (S.q_rwide (S.q_rsize a) (S.q_rsize b)))))), 0)
noncomputable def S.rmul_gk {R : Type} (a b : Int) (k : AVal → List Blk → Option R) : (Int × Int) → Option R := (fun v : Int × Int => k (.tuple [(.int .i64 v.1), (.int .i64 v.2)]) [])
theorem S.rmul_v {R : Type} (a b : Int) (k : AVal → List Blk → Option R) : fnEval tis F29 0 G59s Try.f29 [.int .i64 a, .int .i64 b] [] k = k (.tuple [(.int .i64 (S.rmul a b).1), (.int .i64 (S.rmul a b).2)]) [] :=
  (S.rmul_k a b k).trans (bif_lift (f := (S.rmul_gk a b k)) (bif_lift (f := (S.rmul_gk a b k)) (bif_lift (f := (S.rmul_gk a b k)) (bif_lift (f := (S.rmul_gk a b k)) rfl (bif_lift (f := (S.rmul_gk a b k)) rfl rfl)) (bif_lift (f := (S.rmul_gk a b k)) (bif_lift (f := (S.rmul_gk a b k)) (bif_lift (f := (S.rmul_gk a b k)) rfl (bif_lift (f := (S.rmul_gk a b k)) rfl rfl)) (bif_lift (f := (S.rmul_gk a b k)) rfl (bif_lift (f := (S.rmul_gk a b k)) rfl rfl))) (bif_lift (f := (S.rmul_gk a b k)) rfl (bif_lift (f := (S.rmul_gk a b k)) rfl rfl)))) (bif_lift (f := (S.rmul_gk a b k)) rfl (bif_lift (f := (S.rmul_gk a b k)) rfl rfl))) (bif_lift (f := (S.rmul_gk a b k)) rfl (bif_lift (f := (S.rmul_gk a b k)) rfl rfl)))
noncomputable def H29 : Hnd := fun R args σ k => match args, σ with
  | [.int .i64 a, .int .i64 b], [] => k (.tuple [(.int .i64 (S.rmul a b).1), (.int .i64 (S.rmul a b).2)]) []
  | _, _ => none
theorem H29_ok : HndOk Try.prog 29 H29 := hnd_ok tis tisOk mixOk G59s_ok F29 Try.func29 rfl (by
  intro R args σ k r h
  unfold H29 at h
  split at h
  · rename_i a b; exact ⟨0, (S.rmul_v a b _).trans h⟩
  · cases h)
noncomputable def G29 : Env := Env.add 29 H29 G59s
theorem G29_ok : EnvOk Try.prog G29 := envAdd_ok H29_ok G59s_ok

/-! spinnakerref1.Up -/
def F51 : FCfg := ⟨keepAt [(0, [0, 1]), (1, [0, 1, 7]), (2, [4, 5]), (3, [0, 1, 10]), (4, [4, 5]), (5, [0, 1, 6]), (6, [6, 30]), (7, [6]), (8, [4, 5])], loopAt [], []⟩
theorem S.rup_k {R : Type} (a b : Int) (k : AVal → List Blk → Option R) : fnEval tis F51 0 G29 Try.f51 [.int .i64 a, .int .i64 b] [] k =
  (bif decide (b = 0) then
   k (.tuple [.int .i64 0, .int .i64 3]) ([])
 else
   bif decide (a = -9223372036854775808) then
   bif decide (b = -1) then
   k (.tuple [.int .i64 9223372036854775807, .int .i64 2]) ([])
 else
   bif decide (b = 0) then
   none
 else
   bif decide (b = 0) then
   none
 else
   bif !decide (Int.tmod a b = 0) then
   bif decide (a < 0) == decide (b < 0) then
   k (.tuple [.int .i64 (Go.IntKind.wrap .i64 (Go.IntKind.wrap .i64 (Int.tdiv a b) + 1)), .int .i64 0]) ([])
 else
   k (.tuple [.int .i64 (Go.IntKind.wrap .i64 (Int.tdiv a b)), .int .i64 0]) ([])
 else
   k (.tuple [.int .i64 (Go.IntKind.wrap .i64 (Int.tdiv a b)), .int .i64 0]) ([])
 else
   bif decide (b = 0) then
   none
 else
   bif decide (b = 0) then
   none
 else
   bif !decide (Int.tmod a b = 0) then
   bif decide (a < 0) == decide (b < 0) then
   k (.tuple [.int .i64 (Go.IntKind.wrap .i64 (Go.IntKind.wrap .i64 (Int.tdiv a b) + 1)), .int .i64 0]) ([])
 else
   k (.tuple [.int .i64 (Go.IntKind.wrap .i64 (Int.tdiv a b)), .int .i64 0]) ([])
 else
   k (.tuple [.int .i64 (Go.IntKind.wrap .i64 (Int.tdiv a b)), .int .i64 0]) ([])) := by kernel_rfl
noncomputable def S.rup (a b : Int) : Option (Int × Int) :=
  bif decide (b = 0) then
   some (0, 3)
 else
   bif decide (a = -9223372036854775808) then
   bif decide (b = -1) then
   some (9223372036854775807, 2)
 else
   bif decide (b = 0) then
   none
 else
   bif decide (b = 0) then
   none
 else
   bif !decide (Int.tmod a b = 0) then
   bif decide (a < 0) == decide (b < 0) then
   some (Go.IntKind.wrap .i64 (Go.IntKind.wrap .i64 (Int.tdiv a b) + 1), 0)
 else
   some (Go.IntKind.wrap .i64 (Int.tdiv a b), 0)
 else
   some (Go.IntKind.wrap .i64 (Int.tdiv a b), 0)
 else
   bif decide (b = 0) then
   none
 else
   bif decide (b = 0) then
   none
 else
   bif !decide (Int.tmod a b = 0) then
   bif decide (a < 0) == decide (b < 0) then
   some (Go.IntKind.wrap .i64 (Go.IntKind.wrap .i64 (Int.tdiv a b) + 1), 0)
 else
   some (Go.IntKind.wrap .i64 (Int.tdiv a b), 0)
 else
   some (Go.IntKind.wrap .i64 (Int.tdiv a b), 0)
noncomputable def S.rup_gk {R : Type} (a b : Int) (k : AVal → List Blk → Option R) : (Int × Int) → Option R := (fun v : Int × Int => k (.tuple [(.int .i64 v.1), (.int .i64 v.2)]) [])
theorem S.rup_v {R : Type} (a b : Int) (k : AVal → List Blk → Option R) : fnEval tis F51 0 G29 Try.f51 [.int .i64 a, .int .i64 b] [] k = oK (fun v : Int × Int => k (.tuple [(.int .i64 v.1), (.int .i64 v.2)]) []) (S.rup a b) :=
  (S.rup_k a b k).trans (bif_lift (f := (oK (S.rup_gk a b k))) rfl (bif_lift (f := (oK (S.rup_gk a b k))) (bif_lift (f := (oK (S.rup_gk a b k))) rfl (bif_lift (f := (oK (S.rup_gk a b k))) rfl (bif_lift (f := (oK (S.rup_gk a b k))) rfl (bif_lift (f := (oK (S.rup_gk a b k))) (bif_lift (f := (oK (S.rup_gk a b k))) rfl rfl) rfl)))) (bif_lift (f := (oK (S.rup_gk a b k))) rfl (bif_lift (f := (oK (S.rup_gk a b k))) rfl (bif_lift (f := (oK (S.rup_gk a b k))) (bif_lift (f := (oK (S.rup_gk a b k))) rfl rfl) rfl)))))
noncomputable def H51 : Hnd := fun R args σ k => match args, σ with
  | [.int .i64 a, .int .i64 b], [] => oK (fun v : Int × Int => k (.tuple [(.int .i64 v.1), (.int .i64 v.2)]) []) (S.rup a b)
  | _, _ => none
theorem H51_ok : HndOk Try.prog 51 H51 := hnd_ok tis tisOk mixOk G29_ok F51 Try.func51 rfl (by
  intro R args σ k r h
  unfold H51 at h
  split at h
  · rename_i a b; exact ⟨0, (S.rup_v a b _).trans h⟩
  · cases h)
noncomputable def G51 : Env := Env.add 51 H51 G29
theorem G51_ok : EnvOk Try.prog G51 := envAdd_ok H51_ok G29_ok
end Go.Proofs.Ytdgipcjigbagfaa.AB
