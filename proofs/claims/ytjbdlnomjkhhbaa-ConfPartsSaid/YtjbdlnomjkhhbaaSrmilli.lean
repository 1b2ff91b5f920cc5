/- The document's functions of layer 1, as plain functions. -/
import Derived.Test.YtjbdlnomjkhhbaaSmilli
namespace Go.Proofs.Ytjbdlnomjkhhbaa.AB
set_option linter.unusedVariables false

/-! spinnakerref1.size -/
def F46 : FCfg := ⟨keepAt [(0, [0]), (1, [0, 4]), (2, [2]), (3, [2])], loopAt [], []⟩
theorem S.rsize_k {R : Type} (a : Int) (k : AVal → List Blk → Option R) : fnEval tis F46 0 G26 Try.f46 [.int .i64 a] [] k =
  (bif decide (a < 0) then
    k (.int .u64 (Go.IntKind.wrap .u64 (Go.IntKind.wrap .u64 (Go.IntKind.wrap .i64 (0 - Go.IntKind.wrap .i64 (a + 1))) + 1))) ([])
  else
    k (.int .u64 (Go.IntKind.wrap .u64 a)) ([])) := by kernel_rfl
noncomputable def S.rsize (a : Int) : Int :=
  bif decide (a < 0) then
    (Go.IntKind.wrap .u64 (Go.IntKind.wrap .u64 (Go.IntKind.wrap .i64 (0 - Go.IntKind.wrap .i64 (a + 1))) + 1))
  else
    (Go.IntKind.wrap .u64 a)
theorem S.rsize_v {R : Type} (a : Int) (k : AVal → List Blk → Option R) : fnEval tis F46 0 G26 Try.f46 [.int .i64 a] [] k = k (.int .u64 (S.rsize a)) [] :=
  (S.rsize_k a k).trans (bif_lift (f := (fun v : Int => k (.int .u64 v) [])) rfl rfl)
noncomputable def H46 : Hnd := fun R args σ k => match args, σ with
  | [.int .i64 a], [] => k (.int .u64 (S.rsize a)) []
  | _, _ => none
theorem H46_ok : HndOk Try.prog 46 H46 := hnd_ok tis tisOk mixOk G26_ok F46 Try.func46 rfl (by
  intro R args σ k r h
  unfold H46 at h
  split at h
  · rename_i a; exact ⟨0, (S.rsize_v a _).trans h⟩
  · cases h)
noncomputable def G46 : Env := Env.add 46 H46 G26
theorem G46_ok : EnvOk Try.prog G46 := envAdd_ok H46_ok G26_ok

/-! spinnakerref1.wide -/
def F45 : FCfg := ⟨keepAt [(0, [0, 1]), (1, [0, 1, 6, 7]), (2, [6, 7, 8, 9]), (3, [6, 7, 8, 9, 10]), (4, [4, 5])], loopAt [], []⟩
theorem S.rwide_k {R : Type} (a b : Int) (k : AVal → List Blk → Option R) : fnEval tis F45 0 G46 Try.f45 [.int .u64 a, .int .u64 b] [] k =
  (k (.tuple [.int .u64 (Go.IntKind.wrap .u64 (Go.IntKind.wrap .u64 (Go.IntKind.wrap .u64 (Go.IntKind.wrap .u64 (Int.fdiv a 4294967296 * Int.fdiv b 4294967296) + Int.fdiv (Go.IntKind.wrap .u64 (Int.fdiv a 4294967296 * bitsA Go.BinOp.and .u64 b 4294967295)) 4294967296) + Int.fdiv (Go.IntKind.wrap .u64 (bitsA Go.BinOp.and .u64 a 4294967295 * Int.fdiv b 4294967296)) 4294967296) + Int.fdiv (Go.IntKind.wrap .u64 (Go.IntKind.wrap .u64 (bitsA Go.BinOp.and .u64 (Go.IntKind.wrap .u64 (Int.fdiv a 4294967296 * bitsA Go.BinOp.and .u64 b 4294967295)) 4294967295 + bitsA Go.BinOp.and .u64 (Go.IntKind.wrap .u64 (bitsA Go.BinOp.and .u64 a 4294967295 * Int.fdiv b 4294967296)) 4294967295) + Int.fdiv (Go.IntKind.wrap .u64 (bitsA Go.BinOp.and .u64 a 4294967295 * bitsA Go.BinOp.and .u64 b 4294967295)) 4294967296)) 4294967296)), .int .u64 (bitsA Go.BinOp.or .u64 (Go.IntKind.wrap .u64 (Go.IntKind.wrap .u64 (Go.IntKind.wrap .u64 (bitsA Go.BinOp.and .u64 (Go.IntKind.wrap .u64 (Int.fdiv a 4294967296 * bitsA Go.BinOp.and .u64 b 4294967295)) 4294967295 + bitsA Go.BinOp.and .u64 (Go.IntKind.wrap .u64 (bitsA Go.BinOp.and .u64 a 4294967295 * Int.fdiv b 4294967296)) 4294967295) + Int.fdiv (Go.IntKind.wrap .u64 (bitsA Go.BinOp.and .u64 a 4294967295 * bitsA Go.BinOp.and .u64 b 4294967295)) 4294967296) * 4294967296)) (bitsA Go.BinOp.and .u64 (Go.IntKind.wrap .u64 (bitsA Go.BinOp.and .u64 a 4294967295 * bitsA Go.BinOp.and .u64 b 4294967295)) 4294967295))]) ([])) := by kernel_rfl
noncomputable def S.rwide (a b : Int) : Int × Int :=
  (Go.IntKind.wrap .u64 (Go.IntKind.wrap .u64 (Go.IntKind.wrap .u64 (Go.IntKind.wrap .u64 (Int.fdiv a 4294967296 * Int.fdiv b 4294967296) + Int.fdiv (Go.IntKind.wrap .u64 (Int.fdiv a 4294967296 * bitsA Go.BinOp.and .u64 b 4294967295)) 4294967296) + Int.fdiv (Go.IntKind.wrap .u64 (bitsA Go.BinOp.and .u64 a 4294967295 * Int.fdiv b 4294967296)) 4294967296) + Int.fdiv (Go.IntKind.wrap .u64 (Go.IntKind.wrap .u64 (bitsA Go.BinOp.and .u64 (Go.IntKind.wrap .u64 (Int.fdiv a 4294967296 * bitsA Go.BinOp.and .u64 b 4294967295)) 4294967295 + bitsA Go.BinOp.and .u64 (Go.IntKind.wrap .u64 (bitsA Go.BinOp.and .u64 a 4294967295 * Int.fdiv b 4294967296)) 4294967295) + Int.fdiv (Go.IntKind.wrap .u64 (bitsA Go.BinOp.and .u64 a 4294967295 * bitsA Go.BinOp.and .u64 b 4294967295)) 4294967296)) 4294967296), bitsA Go.BinOp.or .u64 (Go.IntKind.wrap .u64 (Go.IntKind.wrap .u64 (Go.IntKind.wrap .u64 (bitsA Go.BinOp.and .u64 (Go.IntKind.wrap .u64 (Int.fdiv a 4294967296 * bitsA Go.BinOp.and .u64 b 4294967295)) 4294967295 + bitsA Go.BinOp.and .u64 (Go.IntKind.wrap .u64 (bitsA Go.BinOp.and .u64 a 4294967295 * Int.fdiv b 4294967296)) 4294967295) + Int.fdiv (Go.IntKind.wrap .u64 (bitsA Go.BinOp.and .u64 a 4294967295 * bitsA Go.BinOp.and .u64 b 4294967295)) 4294967296) * 4294967296)) (bitsA Go.BinOp.and .u64 (Go.IntKind.wrap .u64 (bitsA Go.BinOp.and .u64 a 4294967295 * bitsA Go.BinOp.and .u64 b 4294967295)) 4294967295))
theorem S.rwide_v {R : Type} (a b : Int) (k : AVal → List Blk → Option R) : fnEval tis F45 0 G46 Try.f45 [.int .u64 a, .int .u64 b] [] k = k (.tuple [(.int .u64 (S.rwide a b).1), (.int .u64 (S.rwide a b).2)]) [] :=
  (S.rwide_k a b k).trans rfl
noncomputable def H45 : Hnd := fun R args σ k => match args, σ with
  | [.int .u64 a, .int .u64 b], [] => k (.tuple [(.int .u64 (S.rwide a b).1), (.int .u64 (S.rwide a b).2)]) []
  | _, _ => none
theorem H45_ok : HndOk Try.prog 45 H45 := hnd_ok tis tisOk mixOk G46_ok F45 Try.func45 rfl (by
  intro R args σ k r h
  unfold H45 at h
  split at h
  · rename_i a b; exact ⟨0, (S.rwide_v a b _).trans h⟩
  · cases h)
noncomputable def G45 : Env := Env.add 45 H45 G46
theorem G45_ok : EnvOk Try.prog G45 := envAdd_ok H45_ok G46_ok

/-! spinnakerref1.thousandth -/
def F47 : FCfg := ⟨keepAt [(0, [0, 1]), (1, [1, 7, 8]), (2, [1, 7, 9]), (3, [7, 9, 10]), (4, [4, 5, 6])], loopAt [], []⟩
theorem S.rthou_k {R : Type} (a b : Int) (k : AVal → List Blk → Option R) : fnEval tis F47 0 G45 Try.f47 [.int .u64 a, .int .u64 b] [] k =
  (k (.tuple [.int .u64 (Go.IntKind.wrap .u64 (Int.tdiv a 1000)), .int .u64 (bitsA Go.BinOp.or .u64 (Go.IntKind.wrap .u64 (Go.IntKind.wrap .u64 (Int.tdiv (bitsA Go.BinOp.or .u64 (Go.IntKind.wrap .u64 (Int.tmod a 1000 * 4294967296)) (Int.fdiv b 4294967296)) 1000) * 4294967296)) (Go.IntKind.wrap .u64 (Int.tdiv (bitsA Go.BinOp.or .u64 (Go.IntKind.wrap .u64 (Int.tmod (bitsA Go.BinOp.or .u64 (Go.IntKind.wrap .u64 (Int.tmod a 1000 * 4294967296)) (Int.fdiv b 4294967296)) 1000 * 4294967296)) (bitsA Go.BinOp.and .u64 b 4294967295)) 1000))), .int .u64 (Int.tmod (bitsA Go.BinOp.or .u64 (Go.IntKind.wrap .u64 (Int.tmod (bitsA Go.BinOp.or .u64 (Go.IntKind.wrap .u64 (Int.tmod a 1000 * 4294967296)) (Int.fdiv b 4294967296)) 1000 * 4294967296)) (bitsA Go.BinOp.and .u64 b 4294967295)) 1000)]) ([])) := by kernel_rfl
noncomputable def S.rthou (a b : Int) : Int × Int × Int :=
  (Go.IntKind.wrap .u64 (Int.tdiv a 1000), bitsA Go.BinOp.or .u64 (Go.IntKind.wrap .u64 (Go.IntKind.wrap .u64 (Int.tdiv (bitsA Go.BinOp.or .u64 (Go.IntKind.wrap .u64 (Int.tmod a 1000 * 4294967296)) (Int.fdiv b 4294967296)) 1000) * 4294967296)) (Go.IntKind.wrap .u64 (Int.tdiv (bitsA Go.BinOp.or .u64 (Go.IntKind.wrap .u64 (Int.tmod (bitsA Go.BinOp.or .u64 (Go.IntKind.wrap .u64 (Int.tmod a 1000 * 4294967296)) (Int.fdiv b 4294967296)) 1000 * 4294967296)) (bitsA Go.BinOp.and .u64 b 4294967295)) 1000)), Int.tmod (bitsA Go.BinOp.or .u64 (Go.IntKind.wrap .u64 (Int.tmod (bitsA Go.BinOp.or .u64 (Go.IntKind.wrap .u64 (Int.tmod a 1000 * 4294967296)) (Int.fdiv b 4294967296)) 1000 * 4294967296)) (bitsA Go.BinOp.and .u64 b 4294967295)) 1000)
theorem S.rthou_v {R : Type} (a b : Int) (k : AVal → List Blk → Option R) : fnEval tis F47 0 G45 Try.f47 [.int .u64 a, .int .u64 b] [] k = k (.tuple [(.int .u64 (S.rthou a b).1), (.int .u64 (S.rthou a b).2.1), (.int .u64 (S.rthou a b).2.2)]) [] :=
  (S.rthou_k a b k).trans rfl
noncomputable def H47 : Hnd := fun R args σ k => match args, σ with
  | [.int .u64 a, .int .u64 b], [] => k (.tuple [(.int .u64 (S.rthou a b).1), (.int .u64 (S.rthou a b).2.1), (.int .u64 (S.rthou a b).2.2)]) []
  | _, _ => none
theorem H47_ok : HndOk Try.prog 47 H47 := hnd_ok tis tisOk mixOk G45_ok F47 Try.func47 rfl (by
  intro R args σ k r h
  unfold H47 at h
  split at h
  · rename_i a b; exact ⟨0, (S.rthou_v a b _).trans h⟩
  · cases h)
noncomputable def G47 : Env := Env.add 47 H47 G45
theorem G47_ok : EnvOk Try.prog G47 := envAdd_ok H47_ok G45_ok
noncomputable def Z_rsize : {f : ∀ (a : Int), Int // f = fun (a : Int) => S.rsize a} := Classical.choice ⟨⟨_, rfl⟩⟩
noncomputable def S.q_rsize (a : Int) : Int := Z_rsize.1 a
theorem S.q_rsize_eq (a : Int) : S.q_rsize a = S.rsize a := by unfold S.q_rsize; rw [Z_rsize.2]
noncomputable def H46s : Hnd := fun R args σ k => match args, σ with
  | [.int .i64 a], [] => k (.int .u64 (S.q_rsize a)) []
  | _, _ => none
theorem H46s_ok : HndOk Try.prog 46 H46s := hnd_ok tis tisOk mixOk G26_ok F46 Try.func46 rfl (by
  intro R args σ k r h
  unfold H46s at h
  split at h
  · rename_i a; simp only [S.q_rsize_eq] at h; exact ⟨0, (S.rsize_v a _).trans h⟩
  · cases h)
noncomputable def G46s : Env := Env.add 46 H46s G47
theorem G46s_ok : EnvOk Try.prog G46s := envAdd_ok H46s_ok G47_ok
noncomputable def Z_rwide : {f : ∀ (a b : Int), Int × Int // f = fun (a b : Int) => S.rwide a b} := Classical.choice ⟨⟨_, rfl⟩⟩
noncomputable def S.q_rwide (a b : Int) : Int × Int := Z_rwide.1 a b
theorem S.q_rwide_eq (a b : Int) : S.q_rwide a b = S.rwide a b := by unfold S.q_rwide; rw [Z_rwide.2]
noncomputable def H45s : Hnd := fun R args σ k => match args, σ with
  | [.int .u64 a, .int .u64 b], [] => k (.tuple [(.int .u64 (S.q_rwide a b).1), (.int .u64 (S.q_rwide a b).2)]) []
  | _, _ => none
theorem H45s_ok : HndOk Try.prog 45 H45s := hnd_ok tis tisOk mixOk G46_ok F45 Try.func45 rfl (by
  intro R args σ k r h
  unfold H45s at h
  split at h
  · rename_i a b; simp only [S.q_rwide_eq] at h; exact ⟨0, (S.rwide_v a b _).trans h⟩
  · cases h)
noncomputable def G45s : Env := Env.add 45 H45s G46s
theorem G45s_ok : EnvOk Try.prog G45s := envAdd_ok H45s_ok G46s_ok
noncomputable def Z_rthou : {f : ∀ (a b : Int), Int × Int × Int // f = fun (a b : Int) => S.rthou a b} := Classical.choice ⟨⟨_, rfl⟩⟩
noncomputable def S.q_rthou (a b : Int) : Int × Int × Int := Z_rthou.1 a b
theorem S.q_rthou_eq (a b : Int) : S.q_rthou a b = S.rthou a b := by unfold S.q_rthou; rw [Z_rthou.2]
noncomputable def H47s : Hnd := fun R args σ k => match args, σ with
  | [.int .u64 a, .int .u64 b], [] => k (.tuple [(.int .u64 (S.q_rthou a b).1), (.int .u64 (S.q_rthou a b).2.1), (.int .u64 (S.q_rthou a b).2.2)]) []
  | _, _ => none
theorem H47s_ok : HndOk Try.prog 47 H47s := hnd_ok tis tisOk mixOk G45_ok F47 Try.func47 rfl (by
  intro R args σ k r h
  unfold H47s at h
  split at h
  · rename_i a b; simp only [S.q_rthou_eq] at h; exact ⟨0, (S.rthou_v a b _).trans h⟩
  · cases h)
noncomputable def G47s : Env := Env.add 47 H47s G45s
theorem G47s_ok : EnvOk Try.prog G47s := envAdd_ok H47s_ok G45s_ok

/-! spinnakerref1.Mul -/
def F21 : FCfg := ⟨keepAt [(0, [0, 1]), (1, [0, 1, 6, 7]), (2, [0, 1, 8, 9, 10]), (3, [8, 9, 10, 11]), (4, [8, 9, 10, 41]), (5, [9, 47]), (6, [4, 5]), (7, [4, 5]), (8, [8, 9, 51]), (9, [8, 9]), (10, [8, 9, 55]), (11, [8, 9]), (12, [9, 63]), (13, [4, 5]), (14, [4, 5])], loopAt [], []⟩
theorem S.rmul_k {R : Type} (a b : Int) (k : AVal → List Blk → Option R) : fnEval tis F21 0 G47s Try.f21 [.int .i64 a, .int .i64 b] [] k =
  (bif !decide (a < 0) == decide (b < 0) then
    bif !decide (a = 0) then
      bif !!decide (b = 0) then
        bif decide (0 < Prod.fst (S.q_rthou (Prod.fst (S.q_rwide (S.q_rsize a) (S.q_rsize b))) (Prod.snd (S.q_rwide (S.q_rsize a) (S.q_rsize b))))) then
          k (.tuple [.int .i64 9223372036854775807, .int .i64 2]) ([])
        else
          bif decide (9223372036854775807 < Prod.fst (Prod.snd (S.q_rthou (Prod.fst (S.q_rwide (S.q_rsize a) (S.q_rsize b))) (Prod.snd (S.q_rwide (S.q_rsize a) (S.q_rsize b)))))) then
            k (.tuple [.int .i64 9223372036854775807, .int .i64 2]) ([])
          else
            k (.tuple [.int .i64 (Go.IntKind.wrap .i64 (Prod.fst (Prod.snd (S.q_rthou (Prod.fst (S.q_rwide (S.q_rsize a) (S.q_rsize b))) (Prod.snd (S.q_rwide (S.q_rsize a) (S.q_rsize b))))))), .int .i64 0]) ([])
      else
        bif decide (0 < Prod.snd (Prod.snd (S.q_rthou (Prod.fst (S.q_rwide (S.q_rsize a) (S.q_rsize b))) (Prod.snd (S.q_rwide (S.q_rsize a) (S.q_rsize b)))))) then
          bif decide (Go.IntKind.wrap .u64 (Prod.fst (Prod.snd (S.q_rthou (Prod.fst (S.q_rwide (S.q_rsize a) (S.q_rsize b))) (Prod.snd (S.q_rwide (S.q_rsize a) (S.q_rsize b))))) + 1) = 0) then
            bif decide (0 < Go.IntKind.wrap .u64 (Prod.fst (S.q_rthou (Prod.fst (S.q_rwide (S.q_rsize a) (S.q_rsize b))) (Prod.snd (S.q_rwide (S.q_rsize a) (S.q_rsize b)))) + 1)) then
              k (.tuple [.int .i64 (-9223372036854775808), .int .i64 2]) ([])
            else
              bif decide (9223372036854775808 < Go.IntKind.wrap .u64 (Prod.fst (Prod.snd (S.q_rthou (Prod.fst (S.q_rwide (S.q_rsize a) (S.q_rsize b))) (Prod.snd (S.q_rwide (S.q_rsize a) (S.q_rsize b))))) + 1)) then
                k (.tuple [.int .i64 (-9223372036854775808), .int .i64 2]) ([])
              else
                k (.tuple [.int .i64 (Go.IntKind.wrap .i64 (Go.IntKind.wrap .u64 (0 - Go.IntKind.wrap .u64 (Prod.fst (Prod.snd (S.q_rthou (Prod.fst (S.q_rwide (S.q_rsize a) (S.q_rsize b))) (Prod.snd (S.q_rwide (S.q_rsize a) (S.q_rsize b))))) + 1)))), .int .i64 0]) ([])
          else
            bif decide (0 < Prod.fst (S.q_rthou (Prod.fst (S.q_rwide (S.q_rsize a) (S.q_rsize b))) (Prod.snd (S.q_rwide (S.q_rsize a) (S.q_rsize b))))) then
              k (.tuple [.int .i64 (-9223372036854775808), .int .i64 2]) ([])
            else
              bif decide (9223372036854775808 < Go.IntKind.wrap .u64 (Prod.fst (Prod.snd (S.q_rthou (Prod.fst (S.q_rwide (S.q_rsize a) (S.q_rsize b))) (Prod.snd (S.q_rwide (S.q_rsize a) (S.q_rsize b))))) + 1)) then
                k (.tuple [.int .i64 (-9223372036854775808), .int .i64 2]) ([])
              else
                k (.tuple [.int .i64 (Go.IntKind.wrap .i64 (Go.IntKind.wrap .u64 (0 - Go.IntKind.wrap .u64 (Prod.fst (Prod.snd (S.q_rthou (Prod.fst (S.q_rwide (S.q_rsize a) (S.q_rsize b))) (Prod.snd (S.q_rwide (S.q_rsize a) (S.q_rsize b))))) + 1)))), .int .i64 0]) ([])
        else
          bif decide (0 < Prod.fst (S.q_rthou (Prod.fst (S.q_rwide (S.q_rsize a) (S.q_rsize b))) (Prod.snd (S.q_rwide (S.q_rsize a) (S.q_rsize b))))) then
            k (.tuple [.int .i64 (-9223372036854775808), .int .i64 2]) ([])
          else
            bif decide (9223372036854775808 < Prod.fst (Prod.snd (S.q_rthou (Prod.fst (S.q_rwide (S.q_rsize a) (S.q_rsize b))) (Prod.snd (S.q_rwide (S.q_rsize a) (S.q_rsize b)))))) then
              k (.tuple [.int .i64 (-9223372036854775808), .int .i64 2]) ([])
            else
              k (.tuple [.int .i64 (Go.IntKind.wrap .i64 (Go.IntKind.wrap .u64 (0 - Prod.fst (Prod.snd (S.q_rthou (Prod.fst (S.q_rwide (S.q_rsize a) (S.q_rsize b))) (Prod.snd (S.q_rwide (S.q_rsize a) (S.q_rsize b)))))))), .int .i64 0]) ([])
    else
      bif decide (0 < Prod.fst (S.q_rthou (Prod.fst (S.q_rwide (S.q_rsize a) (S.q_rsize b))) (Prod.snd (S.q_rwide (S.q_rsize a) (S.q_rsize b))))) then
        k (.tuple [.int .i64 9223372036854775807, .int .i64 2]) ([])
      else
        bif decide (9223372036854775807 < Prod.fst (Prod.snd (S.q_rthou (Prod.fst (S.q_rwide (S.q_rsize a) (S.q_rsize b))) (Prod.snd (S.q_rwide (S.q_rsize a) (S.q_rsize b)))))) then
          k (.tuple [.int .i64 9223372036854775807, .int .i64 2]) ([])
        else
          k (.tuple [.int .i64 (Go.IntKind.wrap .i64 (Prod.fst (Prod.snd (S.q_rthou (Prod.fst (S.q_rwide (S.q_rsize a) (S.q_rsize b))) (Prod.snd (S.q_rwide (S.q_rsize a) (S.q_rsize b))))))), .int .i64 0]) ([])
  else
    bif decide (0 < Prod.fst (S.q_rthou (Prod.fst (S.q_rwide (S.q_rsize a) (S.q_rsize b))) (Prod.snd (S.q_rwide (S.q_rsize a) (S.q_rsize b))))) then
      k (.tuple [.int .i64 9223372036854775807, .int .i64 2]) ([])
    else
      bif decide (9223372036854775807 < Prod.fst (Prod.snd (S.q_rthou (Prod.fst (S.q_rwide (S.q_rsize a) (S.q_rsize b))) (Prod.snd (S.q_rwide (S.q_rsize a) (S.q_rsize b)))))) then
        k (.tuple [.int .i64 9223372036854775807, .int .i64 2]) ([])
      else
        k (.tuple [.int .i64 (Go.IntKind.wrap .i64 (Prod.fst (Prod.snd (S.q_rthou (Prod.fst (S.q_rwide (S.q_rsize a) (S.q_rsize b))) (Prod.snd (S.q_rwide (S.q_rsize a) (S.q_rsize b))))))), .int .i64 0]) ([])) := by kernel_rfl
noncomputable def S.rmul (a b : Int) : Int × Int :=
  bif !decide (a < 0) == decide (b < 0) then
    bif !decide (a = 0) then
      bif !!decide (b = 0) then
        bif decide (0 < Prod.fst (S.q_rthou (Prod.fst (S.q_rwide (S.q_rsize a) (S.q_rsize b))) (Prod.snd (S.q_rwide (S.q_rsize a) (S.q_rsize b))))) then
          (9223372036854775807, 2)
        else
          bif decide (9223372036854775807 < Prod.fst (Prod.snd (S.q_rthou (Prod.fst (S.q_rwide (S.q_rsize a) (S.q_rsize b))) (Prod.snd (S.q_rwide (S.q_rsize a) (S.q_rsize b)))))) then
            (9223372036854775807, 2)
          else
            (Go.IntKind.wrap .i64 (Prod.fst (Prod.snd (S.q_rthou (Prod.fst (S.q_rwide (S.q_rsize a) (S.q_rsize b))) (Prod.snd (S.q_rwide (S.q_rsize a) (S.q_rsize b)))))), 0)
      else
        bif decide (0 < Prod.snd (Prod.snd (S.q_rthou (Prod.fst (S.q_rwide (S.q_rsize a) (S.q_rsize b))) (Prod.snd (S.q_rwide (S.q_rsize a) (S.q_rsize b)))))) then
          bif decide (Go.IntKind.wrap .u64 (Prod.fst (Prod.snd (S.q_rthou (Prod.fst (S.q_rwide (S.q_rsize a) (S.q_rsize b))) (Prod.snd (S.q_rwide (S.q_rsize a) (S.q_rsize b))))) + 1) = 0) then
            bif decide (0 < Go.IntKind.wrap .u64 (Prod.fst (S.q_rthou (Prod.fst (S.q_rwide (S.q_rsize a) (S.q_rsize b))) (Prod.snd (S.q_rwide (S.q_rsize a) (S.q_rsize b)))) + 1)) then
              (-9223372036854775808, 2)
            else
              bif decide (9223372036854775808 < Go.IntKind.wrap .u64 (Prod.fst (Prod.snd (S.q_rthou (Prod.fst (S.q_rwide (S.q_rsize a) (S.q_rsize b))) (Prod.snd (S.q_rwide (S.q_rsize a) (S.q_rsize b))))) + 1)) then
                (-9223372036854775808, 2)
              else
                (Go.IntKind.wrap .i64 (Go.IntKind.wrap .u64 (0 - Go.IntKind.wrap .u64 (Prod.fst (Prod.snd (S.q_rthou (Prod.fst (S.q_rwide (S.q_rsize a) (S.q_rsize b))) (Prod.snd (S.q_rwide (S.q_rsize a) (S.q_rsize b))))) + 1))), 0)
          else
            bif decide (0 < Prod.fst (S.q_rthou (Prod.fst (S.q_rwide (S.q_rsize a) (S.q_rsize b))) (Prod.snd (S.q_rwide (S.q_rsize a) (S.q_rsize b))))) then
              (-9223372036854775808, 2)
            else
              bif decide (9223372036854775808 < Go.IntKind.wrap .u64 (Prod.fst (Prod.snd (S.q_rthou (Prod.fst (S.q_rwide (S.q_rsize a) (S.q_rsize b))) (Prod.snd (S.q_rwide (S.q_rsize a) (S.q_rsize b))))) + 1)) then
                (-9223372036854775808, 2)
              else
                (Go.IntKind.wrap .i64 (Go.IntKind.wrap .u64 (0 - Go.IntKind.wrap .u64 (Prod.fst (Prod.snd (S.q_rthou (Prod.fst (S.q_rwide (S.q_rsize a) (S.q_rsize b))) (Prod.snd (S.q_rwide (S.q_rsize a) (S.q_rsize b))))) + 1))), 0)
        else
          bif decide (0 < Prod.fst (S.q_rthou (Prod.fst (S.q_rwide (S.q_rsize a) (S.q_rsize b))) (Prod.snd (S.q_rwide (S.q_rsize a) (S.q_rsize b))))) then
            (-9223372036854775808, 2)
          else
            bif decide (9223372036854775808 < Prod.fst (Prod.snd (S.q_rthou (Prod.fst (S.q_rwide (S.q_rsize a) (S.q_rsize b))) (Prod.snd (S.q_rwide (S.q_rsize a) (S.q_rsize b)))))) then
              (-9223372036854775808, 2)
            else
              (Go.IntKind.wrap .i64 (Go.IntKind.wrap .u64 (0 - Prod.fst (Prod.snd (S.q_rthou (Prod.fst (S.q_rwide (S.q_rsize a) (S.q_rsize b))) (Prod.snd (S.q_rwide (S.q_rsize a) (S.q_rsize b))))))), 0)
    else
      bif decide (0 < Prod.fst (S.q_rthou (Prod.fst (S.q_rwide (S.q_rsize a) (S.q_rsize b))) (Prod.snd (S.q_rwide (S.q_rsize a) (S.q_rsize b))))) then
        (9223372036854775807, 2)
      else
        bif decide (9223372036854775807 < Prod.fst (Prod.snd (S.q_rthou (Prod.fst (S.q_rwide (S.q_rsize a) (S.q_rsize b))) (Prod.snd (S.q_rwide (S.q_rsize a) (S.q_rsize b)))))) then
          (9223372036854775807, 2)
        else
          (Go.IntKind.wrap .i64 (Prod.fst (Prod.snd (S.q_rthou (Prod.fst (S.q_rwide (S.q_rsize a) (S.q_rsize b))) (Prod.snd (S.q_rwide (S.q_rsize a) (S.q_rsize b)))))), 0)
  else
    bif decide (0 < Prod.fst (S.q_rthou (Prod.fst (S.q_rwide (S.q_rsize a) (S.q_rsize b))) (Prod.snd (S.q_rwide (S.q_rsize a) (S.q_rsize b))))) then
      (9223372036854775807, 2)
    else
      bif decide (9223372036854775807 < Prod.fst (Prod.snd (S.q_rthou (Prod.fst (S.q_rwide (S.q_rsize a) (S.q_rsize b))) (Prod.snd (S.q_rwide (S.q_rsize a) (S.q_rsize b)))))) then
        (9223372036854775807, 2)
      else
        (Go.IntKind.wrap .i64 (Prod.fst (Prod.snd (S.q_rthou (Prod.fst (S.q_rwide (S.q_rsize a) (S.q_rsize b))) (Prod.snd (S.q_rwide (S.q_rsize a) (S.q_rsize b)))))), 0)
theorem S.rmul_v {R : Type} (a b : Int) (k : AVal → List Blk → Option R) : fnEval tis F21 0 G47s Try.f21 [.int .i64 a, .int .i64 b] [] k = k (.tuple [(.int .i64 (S.rmul a b).1), (.int .i64 (S.rmul a b).2)]) [] :=
  (S.rmul_k a b k).trans (bif_lift (f := (fun v : Int × Int => k (.tuple [(.int .i64 v.1), (.int .i64 v.2)]) [])) (bif_lift (f := (fun v : Int × Int => k (.tuple [(.int .i64 v.1), (.int .i64 v.2)]) [])) (bif_lift (f := (fun v : Int × Int => k (.tuple [(.int .i64 v.1), (.int .i64 v.2)]) [])) (bif_lift (f := (fun v : Int × Int => k (.tuple [(.int .i64 v.1), (.int .i64 v.2)]) [])) rfl (bif_lift (f := (fun v : Int × Int => k (.tuple [(.int .i64 v.1), (.int .i64 v.2)]) [])) rfl rfl)) (bif_lift (f := (fun v : Int × Int => k (.tuple [(.int .i64 v.1), (.int .i64 v.2)]) [])) (bif_lift (f := (fun v : Int × Int => k (.tuple [(.int .i64 v.1), (.int .i64 v.2)]) [])) (bif_lift (f := (fun v : Int × Int => k (.tuple [(.int .i64 v.1), (.int .i64 v.2)]) [])) rfl (bif_lift (f := (fun v : Int × Int => k (.tuple [(.int .i64 v.1), (.int .i64 v.2)]) [])) rfl rfl)) (bif_lift (f := (fun v : Int × Int => k (.tuple [(.int .i64 v.1), (.int .i64 v.2)]) [])) rfl (bif_lift (f := (fun v : Int × Int => k (.tuple [(.int .i64 v.1), (.int .i64 v.2)]) [])) rfl rfl))) (bif_lift (f := (fun v : Int × Int => k (.tuple [(.int .i64 v.1), (.int .i64 v.2)]) [])) rfl (bif_lift (f := (fun v : Int × Int => k (.tuple [(.int .i64 v.1), (.int .i64 v.2)]) [])) rfl rfl)))) (bif_lift (f := (fun v : Int × Int => k (.tuple [(.int .i64 v.1), (.int .i64 v.2)]) [])) rfl (bif_lift (f := (fun v : Int × Int => k (.tuple [(.int .i64 v.1), (.int .i64 v.2)]) [])) rfl rfl))) (bif_lift (f := (fun v : Int × Int => k (.tuple [(.int .i64 v.1), (.int .i64 v.2)]) [])) rfl (bif_lift (f := (fun v : Int × Int => k (.tuple [(.int .i64 v.1), (.int .i64 v.2)]) [])) rfl rfl)))
noncomputable def H21 : Hnd := fun R args σ k => match args, σ with
  | [.int .i64 a, .int .i64 b], [] => k (.tuple [(.int .i64 (S.rmul a b).1), (.int .i64 (S.rmul a b).2)]) []
  | _, _ => none
theorem H21_ok : HndOk Try.prog 21 H21 := hnd_ok tis tisOk mixOk G47s_ok F21 Try.func21 rfl (by
  intro R args σ k r h
  unfold H21 at h
  split at h
  · rename_i a b; exact ⟨0, (S.rmul_v a b _).trans h⟩
  · cases h)
noncomputable def G21 : Env := Env.add 21 H21 G47s
theorem G21_ok : EnvOk Try.prog G21 := envAdd_ok H21_ok G47s_ok

/-! spinnakerref1.Add -/
def F18 : FCfg := ⟨keepAt [(0, [0, 1]), (1, [0, 1, 13]), (2, [4, 5]), (3, [0, 1, 21]), (4, [4, 5]), (5, [4, 5])], loopAt [], []⟩
theorem S.radd_k {R : Type} (a b : Int) (k : AVal → List Blk → Option R) : fnEval tis F18 0 G21 Try.f18 [.int .i64 a, .int .i64 b] [] k =
  (bif decide (0 < b) then
    bif decide (Go.IntKind.wrap .i64 (9223372036854775807 - b) < a) then
      k (.tuple [.int .i64 9223372036854775807, .int .i64 2]) ([])
    else
      bif decide (b < 0) then
        bif decide (a < Go.IntKind.wrap .i64 (-9223372036854775808 - b)) then
          k (.tuple [.int .i64 (-9223372036854775808), .int .i64 2]) ([])
        else
          k (.tuple [.int .i64 (Go.IntKind.wrap .i64 (a + b)), .int .i64 0]) ([])
      else
        k (.tuple [.int .i64 (Go.IntKind.wrap .i64 (a + b)), .int .i64 0]) ([])
  else
    bif decide (b < 0) then
      bif decide (a < Go.IntKind.wrap .i64 (-9223372036854775808 - b)) then
        k (.tuple [.int .i64 (-9223372036854775808), .int .i64 2]) ([])
      else
        k (.tuple [.int .i64 (Go.IntKind.wrap .i64 (a + b)), .int .i64 0]) ([])
    else
      k (.tuple [.int .i64 (Go.IntKind.wrap .i64 (a + b)), .int .i64 0]) ([])) := by kernel_rfl
noncomputable def S.radd (a b : Int) : Int × Int :=
  bif decide (0 < b) then
    bif decide (Go.IntKind.wrap .i64 (9223372036854775807 - b) < a) then
      (9223372036854775807, 2)
    else
      bif decide (b < 0) then
        bif decide (a < Go.IntKind.wrap .i64 (-9223372036854775808 - b)) then
          (-9223372036854775808, 2)
        else
          (Go.IntKind.wrap .i64 (a + b), 0)
      else
        (Go.IntKind.wrap .i64 (a + b), 0)
  else
    bif decide (b < 0) then
      bif decide (a < Go.IntKind.wrap .i64 (-9223372036854775808 - b)) then
        (-9223372036854775808, 2)
      else
        (Go.IntKind.wrap .i64 (a + b), 0)
    else
      (Go.IntKind.wrap .i64 (a + b), 0)
theorem S.radd_v {R : Type} (a b : Int) (k : AVal → List Blk → Option R) : fnEval tis F18 0 G21 Try.f18 [.int .i64 a, .int .i64 b] [] k = k (.tuple [(.int .i64 (S.radd a b).1), (.int .i64 (S.radd a b).2)]) [] :=
  (S.radd_k a b k).trans (bif_lift (f := (fun v : Int × Int => k (.tuple [(.int .i64 v.1), (.int .i64 v.2)]) [])) (bif_lift (f := (fun v : Int × Int => k (.tuple [(.int .i64 v.1), (.int .i64 v.2)]) [])) rfl (bif_lift (f := (fun v : Int × Int => k (.tuple [(.int .i64 v.1), (.int .i64 v.2)]) [])) (bif_lift (f := (fun v : Int × Int => k (.tuple [(.int .i64 v.1), (.int .i64 v.2)]) [])) rfl rfl) rfl)) (bif_lift (f := (fun v : Int × Int => k (.tuple [(.int .i64 v.1), (.int .i64 v.2)]) [])) (bif_lift (f := (fun v : Int × Int => k (.tuple [(.int .i64 v.1), (.int .i64 v.2)]) [])) rfl rfl) rfl))
noncomputable def H18 : Hnd := fun R args σ k => match args, σ with
  | [.int .i64 a, .int .i64 b], [] => k (.tuple [(.int .i64 (S.radd a b).1), (.int .i64 (S.radd a b).2)]) []
  | _, _ => none
theorem H18_ok : HndOk Try.prog 18 H18 := hnd_ok tis tisOk mixOk G21_ok F18 Try.func18 rfl (by
  intro R args σ k r h
  unfold H18 at h
  split at h
  · rename_i a b; exact ⟨0, (S.radd_v a b _).trans h⟩
  · cases h)
noncomputable def G18 : Env := Env.add 18 H18 G21
theorem G18_ok : EnvOk Try.prog G18 := envAdd_ok H18_ok G21_ok

/-! spinnakerref1.Sub -/
def F20 : FCfg := ⟨keepAt [(0, [0, 1]), (1, [0, 1, 13]), (2, [4, 5]), (3, [0, 1, 21]), (4, [4, 5]), (5, [4, 5])], loopAt [], []⟩
theorem S.rsub_k {R : Type} (a b : Int) (k : AVal → List Blk → Option R) : fnEval tis F20 0 G18 Try.f20 [.int .i64 a, .int .i64 b] [] k =
  (bif decide (b < 0) then
    bif decide (Go.IntKind.wrap .i64 (9223372036854775807 + b) < a) then
      k (.tuple [.int .i64 9223372036854775807, .int .i64 2]) ([])
    else
      bif decide (0 < b) then
        bif decide (a < Go.IntKind.wrap .i64 (-9223372036854775808 + b)) then
          k (.tuple [.int .i64 (-9223372036854775808), .int .i64 2]) ([])
        else
          k (.tuple [.int .i64 (Go.IntKind.wrap .i64 (a - b)), .int .i64 0]) ([])
      else
        k (.tuple [.int .i64 (Go.IntKind.wrap .i64 (a - b)), .int .i64 0]) ([])
  else
    bif decide (0 < b) then
      bif decide (a < Go.IntKind.wrap .i64 (-9223372036854775808 + b)) then
        k (.tuple [.int .i64 (-9223372036854775808), .int .i64 2]) ([])
      else
        k (.tuple [.int .i64 (Go.IntKind.wrap .i64 (a - b)), .int .i64 0]) ([])
    else
      k (.tuple [.int .i64 (Go.IntKind.wrap .i64 (a - b)), .int .i64 0]) ([])) := by kernel_rfl
noncomputable def S.rsub (a b : Int) : Int × Int :=
  bif decide (b < 0) then
    bif decide (Go.IntKind.wrap .i64 (9223372036854775807 + b) < a) then
      (9223372036854775807, 2)
    else
      bif decide (0 < b) then
        bif decide (a < Go.IntKind.wrap .i64 (-9223372036854775808 + b)) then
          (-9223372036854775808, 2)
        else
          (Go.IntKind.wrap .i64 (a - b), 0)
      else
        (Go.IntKind.wrap .i64 (a - b), 0)
  else
    bif decide (0 < b) then
      bif decide (a < Go.IntKind.wrap .i64 (-9223372036854775808 + b)) then
        (-9223372036854775808, 2)
      else
        (Go.IntKind.wrap .i64 (a - b), 0)
    else
      (Go.IntKind.wrap .i64 (a - b), 0)
theorem S.rsub_v {R : Type} (a b : Int) (k : AVal → List Blk → Option R) : fnEval tis F20 0 G18 Try.f20 [.int .i64 a, .int .i64 b] [] k = k (.tuple [(.int .i64 (S.rsub a b).1), (.int .i64 (S.rsub a b).2)]) [] :=
  (S.rsub_k a b k).trans (bif_lift (f := (fun v : Int × Int => k (.tuple [(.int .i64 v.1), (.int .i64 v.2)]) [])) (bif_lift (f := (fun v : Int × Int => k (.tuple [(.int .i64 v.1), (.int .i64 v.2)]) [])) rfl (bif_lift (f := (fun v : Int × Int => k (.tuple [(.int .i64 v.1), (.int .i64 v.2)]) [])) (bif_lift (f := (fun v : Int × Int => k (.tuple [(.int .i64 v.1), (.int .i64 v.2)]) [])) rfl rfl) rfl)) (bif_lift (f := (fun v : Int × Int => k (.tuple [(.int .i64 v.1), (.int .i64 v.2)]) [])) (bif_lift (f := (fun v : Int × Int => k (.tuple [(.int .i64 v.1), (.int .i64 v.2)]) [])) rfl rfl) rfl))
noncomputable def H20 : Hnd := fun R args σ k => match args, σ with
  | [.int .i64 a, .int .i64 b], [] => k (.tuple [(.int .i64 (S.rsub a b).1), (.int .i64 (S.rsub a b).2)]) []
  | _, _ => none
theorem H20_ok : HndOk Try.prog 20 H20 := hnd_ok tis tisOk mixOk G18_ok F20 Try.func20 rfl (by
  intro R args σ k r h
  unfold H20 at h
  split at h
  · rename_i a b; exact ⟨0, (S.rsub_v a b _).trans h⟩
  · cases h)
noncomputable def G20 : Env := Env.add 20 H20 G18
theorem G20_ok : EnvOk Try.prog G20 := envAdd_ok H20_ok G18_ok

/-! spinnakerref1.Up -/
def F23 : FCfg := ⟨keepAt [(0, [0, 1]), (1, [0, 1, 7]), (2, [4, 5]), (3, [0, 1, 10]), (4, [4, 5]), (5, [0, 1, 6]), (6, [6, 30]), (7, [6]), (8, [4, 5])], loopAt [], []⟩
theorem S.rup_k {R : Type} (a b : Int) (k : AVal → List Blk → Option R) : fnEval tis F23 0 G20 Try.f23 [.int .i64 a, .int .i64 b] [] k =
  (bif decide (b = 0) then
    k (.tuple [.int .i64 0, .int .i64 3]) ([])
  else
    bif decide (a = -9223372036854775808) then
      bif decide (b = -1) then
        k (.tuple [.int .i64 9223372036854775807, .int .i64 2]) ([])
      else
        bif decide (b = 0) then
          none
        else
          bif decide (b = 0) then
            none
          else
            bif !decide (Int.tmod a b = 0) then
              bif decide (a < 0) == decide (b < 0) then
                k (.tuple [.int .i64 (Go.IntKind.wrap .i64 (Go.IntKind.wrap .i64 (Int.tdiv a b) + 1)), .int .i64 0]) ([])
              else
                k (.tuple [.int .i64 (Go.IntKind.wrap .i64 (Int.tdiv a b)), .int .i64 0]) ([])
            else
              k (.tuple [.int .i64 (Go.IntKind.wrap .i64 (Int.tdiv a b)), .int .i64 0]) ([])
    else
      bif decide (b = 0) then
        none
      else
        bif decide (b = 0) then
          none
        else
          bif !decide (Int.tmod a b = 0) then
            bif decide (a < 0) == decide (b < 0) then
              k (.tuple [.int .i64 (Go.IntKind.wrap .i64 (Go.IntKind.wrap .i64 (Int.tdiv a b) + 1)), .int .i64 0]) ([])
            else
              k (.tuple [.int .i64 (Go.IntKind.wrap .i64 (Int.tdiv a b)), .int .i64 0]) ([])
          else
            k (.tuple [.int .i64 (Go.IntKind.wrap .i64 (Int.tdiv a b)), .int .i64 0]) ([])) := by kernel_rfl
noncomputable def S.rup (a b : Int) : Option (Int × Int) :=
  bif decide (b = 0) then
    some (0, 3)
  else
    bif decide (a = -9223372036854775808) then
      bif decide (b = -1) then
        some (9223372036854775807, 2)
      else
        bif decide (b = 0) then
          none
        else
          bif decide (b = 0) then
            none
          else
            bif !decide (Int.tmod a b = 0) then
              bif decide (a < 0) == decide (b < 0) then
                some (Go.IntKind.wrap .i64 (Go.IntKind.wrap .i64 (Int.tdiv a b) + 1), 0)
              else
                some (Go.IntKind.wrap .i64 (Int.tdiv a b), 0)
            else
              some (Go.IntKind.wrap .i64 (Int.tdiv a b), 0)
    else
      bif decide (b = 0) then
        none
      else
        bif decide (b = 0) then
          none
        else
          bif !decide (Int.tmod a b = 0) then
            bif decide (a < 0) == decide (b < 0) then
              some (Go.IntKind.wrap .i64 (Go.IntKind.wrap .i64 (Int.tdiv a b) + 1), 0)
            else
              some (Go.IntKind.wrap .i64 (Int.tdiv a b), 0)
          else
            some (Go.IntKind.wrap .i64 (Int.tdiv a b), 0)
theorem S.rup_v {R : Type} (a b : Int) (k : AVal → List Blk → Option R) : fnEval tis F23 0 G20 Try.f23 [.int .i64 a, .int .i64 b] [] k = oK (fun v : Int × Int => k (.tuple [(.int .i64 v.1), (.int .i64 v.2)]) []) (S.rup a b) :=
  (S.rup_k a b k).trans (bif_lift (f := (oK (fun v : Int × Int => k (.tuple [(.int .i64 v.1), (.int .i64 v.2)]) []))) rfl (bif_lift (f := (oK (fun v : Int × Int => k (.tuple [(.int .i64 v.1), (.int .i64 v.2)]) []))) (bif_lift (f := (oK (fun v : Int × Int => k (.tuple [(.int .i64 v.1), (.int .i64 v.2)]) []))) rfl (bif_lift (f := (oK (fun v : Int × Int => k (.tuple [(.int .i64 v.1), (.int .i64 v.2)]) []))) rfl (bif_lift (f := (oK (fun v : Int × Int => k (.tuple [(.int .i64 v.1), (.int .i64 v.2)]) []))) rfl (bif_lift (f := (oK (fun v : Int × Int => k (.tuple [(.int .i64 v.1), (.int .i64 v.2)]) []))) (bif_lift (f := (oK (fun v : Int × Int => k (.tuple [(.int .i64 v.1), (.int .i64 v.2)]) []))) rfl rfl) rfl)))) (bif_lift (f := (oK (fun v : Int × Int => k (.tuple [(.int .i64 v.1), (.int .i64 v.2)]) []))) rfl (bif_lift (f := (oK (fun v : Int × Int => k (.tuple [(.int .i64 v.1), (.int .i64 v.2)]) []))) rfl (bif_lift (f := (oK (fun v : Int × Int => k (.tuple [(.int .i64 v.1), (.int .i64 v.2)]) []))) (bif_lift (f := (oK (fun v : Int × Int => k (.tuple [(.int .i64 v.1), (.int .i64 v.2)]) []))) rfl rfl) rfl)))))
noncomputable def H23 : Hnd := fun R args σ k => match args, σ with
  | [.int .i64 a, .int .i64 b], [] => oK (fun v : Int × Int => k (.tuple [(.int .i64 v.1), (.int .i64 v.2)]) []) (S.rup a b)
  | _, _ => none
theorem H23_ok : HndOk Try.prog 23 H23 := hnd_ok tis tisOk mixOk G20_ok F23 Try.func23 rfl (by
  intro R args σ k r h
  unfold H23 at h
  split at h
  · rename_i a b; exact ⟨0, (S.rup_v a b _).trans h⟩
  · cases h)
noncomputable def G23 : Env := Env.add 23 H23 G20
theorem G23_ok : EnvOk Try.prog G23 := envAdd_ok H23_ok G20_ok

/-! spinnakerref1.Down -/
def F25 : FCfg := ⟨keepAt [(0, [0, 1]), (1, [0, 1, 7]), (2, [4, 5]), (3, [0, 1, 10]), (4, [4, 5]), (5, [0, 1, 6]), (6, [6, 30]), (7, [6]), (8, [4, 5])], loopAt [], []⟩
theorem S.rdown_k {R : Type} (a b : Int) (k : AVal → List Blk → Option R) : fnEval tis F25 0 G23 Try.f25 [.int .i64 a, .int .i64 b] [] k =
  (bif decide (b = 0) then
    k (.tuple [.int .i64 0, .int .i64 3]) ([])
  else
    bif decide (a = -9223372036854775808) then
      bif decide (b = -1) then
        k (.tuple [.int .i64 9223372036854775807, .int .i64 2]) ([])
      else
        bif decide (b = 0) then
          none
        else
          bif decide (b = 0) then
            none
          else
            bif !decide (Int.tmod a b = 0) then
              bif !decide (a < 0) == decide (b < 0) then
                k (.tuple [.int .i64 (Go.IntKind.wrap .i64 (Go.IntKind.wrap .i64 (Int.tdiv a b) - 1)), .int .i64 0]) ([])
              else
                k (.tuple [.int .i64 (Go.IntKind.wrap .i64 (Int.tdiv a b)), .int .i64 0]) ([])
            else
              k (.tuple [.int .i64 (Go.IntKind.wrap .i64 (Int.tdiv a b)), .int .i64 0]) ([])
    else
      bif decide (b = 0) then
        none
      else
        bif decide (b = 0) then
          none
        else
          bif !decide (Int.tmod a b = 0) then
            bif !decide (a < 0) == decide (b < 0) then
              k (.tuple [.int .i64 (Go.IntKind.wrap .i64 (Go.IntKind.wrap .i64 (Int.tdiv a b) - 1)), .int .i64 0]) ([])
            else
              k (.tuple [.int .i64 (Go.IntKind.wrap .i64 (Int.tdiv a b)), .int .i64 0]) ([])
          else
            k (.tuple [.int .i64 (Go.IntKind.wrap .i64 (Int.tdiv a b)), .int .i64 0]) ([])) := by kernel_rfl
noncomputable def S.rdown (a b : Int) : Option (Int × Int) :=
  bif decide (b = 0) then
    some (0, 3)
  else
    bif decide (a = -9223372036854775808) then
      bif decide (b = -1) then
        some (9223372036854775807, 2)
      else
        bif decide (b = 0) then
          none
        else
          bif decide (b = 0) then
            none
          else
            bif !decide (Int.tmod a b = 0) then
              bif !decide (a < 0) == decide (b < 0) then
                some (Go.IntKind.wrap .i64 (Go.IntKind.wrap .i64 (Int.tdiv a b) - 1), 0)
              else
                some (Go.IntKind.wrap .i64 (Int.tdiv a b), 0)
            else
              some (Go.IntKind.wrap .i64 (Int.tdiv a b), 0)
    else
      bif decide (b = 0) then
        none
      else
        bif decide (b = 0) then
          none
        else
          bif !decide (Int.tmod a b = 0) then
            bif !decide (a < 0) == decide (b < 0) then
              some (Go.IntKind.wrap .i64 (Go.IntKind.wrap .i64 (Int.tdiv a b) - 1), 0)
            else
              some (Go.IntKind.wrap .i64 (Int.tdiv a b), 0)
          else
            some (Go.IntKind.wrap .i64 (Int.tdiv a b), 0)
theorem S.rdown_v {R : Type} (a b : Int) (k : AVal → List Blk → Option R) : fnEval tis F25 0 G23 Try.f25 [.int .i64 a, .int .i64 b] [] k = oK (fun v : Int × Int => k (.tuple [(.int .i64 v.1), (.int .i64 v.2)]) []) (S.rdown a b) :=
  (S.rdown_k a b k).trans (bif_lift (f := (oK (fun v : Int × Int => k (.tuple [(.int .i64 v.1), (.int .i64 v.2)]) []))) rfl (bif_lift (f := (oK (fun v : Int × Int => k (.tuple [(.int .i64 v.1), (.int .i64 v.2)]) []))) (bif_lift (f := (oK (fun v : Int × Int => k (.tuple [(.int .i64 v.1), (.int .i64 v.2)]) []))) rfl (bif_lift (f := (oK (fun v : Int × Int => k (.tuple [(.int .i64 v.1), (.int .i64 v.2)]) []))) rfl (bif_lift (f := (oK (fun v : Int × Int => k (.tuple [(.int .i64 v.1), (.int .i64 v.2)]) []))) rfl (bif_lift (f := (oK (fun v : Int × Int => k (.tuple [(.int .i64 v.1), (.int .i64 v.2)]) []))) (bif_lift (f := (oK (fun v : Int × Int => k (.tuple [(.int .i64 v.1), (.int .i64 v.2)]) []))) rfl rfl) rfl)))) (bif_lift (f := (oK (fun v : Int × Int => k (.tuple [(.int .i64 v.1), (.int .i64 v.2)]) []))) rfl (bif_lift (f := (oK (fun v : Int × Int => k (.tuple [(.int .i64 v.1), (.int .i64 v.2)]) []))) rfl (bif_lift (f := (oK (fun v : Int × Int => k (.tuple [(.int .i64 v.1), (.int .i64 v.2)]) []))) (bif_lift (f := (oK (fun v : Int × Int => k (.tuple [(.int .i64 v.1), (.int .i64 v.2)]) []))) rfl rfl) rfl)))))
noncomputable def H25 : Hnd := fun R args σ k => match args, σ with
  | [.int .i64 a, .int .i64 b], [] => oK (fun v : Int × Int => k (.tuple [(.int .i64 v.1), (.int .i64 v.2)]) []) (S.rdown a b)
  | _, _ => none
theorem H25_ok : HndOk Try.prog 25 H25 := hnd_ok tis tisOk mixOk G23_ok F25 Try.func25 rfl (by
  intro R args σ k r h
  unfold H25 at h
  split at h
  · rename_i a b; exact ⟨0, (S.rdown_v a b _).trans h⟩
  · cases h)
noncomputable def G25 : Env := Env.add 25 H25 G23
theorem G25_ok : EnvOk Try.prog G25 := envAdd_ok H25_ok G23_ok

/-! spinnakerref1.Clamp -/
def F27 : FCfg := ⟨keepAt [(0, [0, 1, 2]), (1, [0, 1, 2, 9]), (2, [6]), (3, [0, 1, 13]), (4, [6]), (5, [6])], loopAt [], []⟩
theorem S.rclamp_k {R : Type} (a lo hi : Int) (k : AVal → List Blk → Option R) : fnEval tis F27 0 G25 Try.f27 [.int .i64 a, .int .i64 lo, .int .i64 hi] [] k =
  (bif decide (hi < a) then
    k (.int .i64 hi) ([])
  else
    bif decide (a < lo) then
      k (.int .i64 lo) ([])
    else
      k (.int .i64 a) ([])) := by kernel_rfl
noncomputable def S.rclamp (a lo hi : Int) : Int :=
  bif decide (hi < a) then
    (hi)
  else
    bif decide (a < lo) then
      (lo)
    else
      (a)
theorem S.rclamp_v {R : Type} (a lo hi : Int) (k : AVal → List Blk → Option R) : fnEval tis F27 0 G25 Try.f27 [.int .i64 a, .int .i64 lo, .int .i64 hi] [] k = k (.int .i64 (S.rclamp a lo hi)) [] :=
  (S.rclamp_k a lo hi k).trans (bif_lift (f := (fun v : Int => k (.int .i64 v) [])) rfl (bif_lift (f := (fun v : Int => k (.int .i64 v) [])) rfl rfl))
noncomputable def H27 : Hnd := fun R args σ k => match args, σ with
  | [.int .i64 a, .int .i64 lo, .int .i64 hi], [] => k (.int .i64 (S.rclamp a lo hi)) []
  | _, _ => none
theorem H27_ok : HndOk Try.prog 27 H27 := hnd_ok tis tisOk mixOk G25_ok F27 Try.func27 rfl (by
  intro R args σ k r h
  unfold H27 at h
  split at h
  · rename_i a lo hi; exact ⟨0, (S.rclamp_v a lo hi _).trans h⟩
  · cases h)
noncomputable def G27 : Env := Env.add 27 H27 G25
theorem G27_ok : EnvOk Try.prog G27 := envAdd_ok H27_ok G25_ok
end Go.Proofs.Ytjbdlnomjkhhbaa.AB
