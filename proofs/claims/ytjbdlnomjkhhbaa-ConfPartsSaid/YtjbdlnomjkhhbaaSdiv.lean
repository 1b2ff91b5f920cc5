/- The library functions of 128 bits, as plain functions. -/
import Derived.Test.YtjbdlnomjkhhbaaTis
import Derived.Test.YtjbdlnomjkhhbaaFwZ
namespace Go.Proofs.Ytjbdlnomjkhhbaa.AB
set_option linter.unusedVariables false

/-! milli.end -/
def F43 : FCfg := ⟨keepAt [(0, [0]), (1, [4, 5]), (2, [14]), (3, [2, 3]), (4, [2, 3])], loopAt [], []⟩
theorem S.mend_k {R : Type} (up : Bool) (k : AVal → List Blk → Option R) : fnEval tis F43 0 Env.none Try.f43 [.iface 4 (.bool up)] [] k =
  (bif up then
    k (.tuple [.int .i64 9223372036854775807, .int .i64 2]) ([])
  else
    k (.tuple [.int .i64 (-9223372036854775808), .int .i64 2]) ([])) := by kernel_rfl
def S.mend (up : Bool) : Int × Int :=
  bif up then
    (9223372036854775807, 2)
  else
    (-9223372036854775808, 2)
theorem S.mend_v {R : Type} (up : Bool) (k : AVal → List Blk → Option R) : fnEval tis F43 0 Env.none Try.f43 [.iface 4 (.bool up)] [] k = k (.tuple [(.int .i64 (S.mend up).1), (.int .i64 (S.mend up).2)]) [] :=
  (S.mend_k up k).trans (bif_lift (f := (fun v : Int × Int => k (.tuple [(.int .i64 v.1), (.int .i64 v.2)]) [])) rfl rfl)
def H43 : Hnd := fun R args σ k => match args, σ with
  | [.iface 4 (.bool up)], [] => k (.tuple [(.int .i64 (S.mend up).1), (.int .i64 (S.mend up).2)]) []
  | _, _ => none
theorem H43_ok : HndOk Try.prog 43 H43 := hnd_ok tis tisOk mixOk envNone_ok F43 Try.func43 rfl (by
  intro R args σ k r h
  unfold H43 at h
  split at h
  · rename_i up; exact ⟨0, (S.mend_v up _).trans h⟩
  · cases h)
def G43 : Env := Env.add 43 H43 Env.none
theorem G43_ok : EnvOk Try.prog G43 := envAdd_ok H43_ok envNone_ok

/-! math/bits.Mul64 -/
def F41 : FCfg := ⟨keepAt [(0, [0, 1]), (1, [0, 1, 6]), (2, [0, 1, 6, 7]), (3, [0, 1, 6, 7, 8]), (4, [0, 1, 6, 7, 8, 9]), (5, [0, 1, 6, 7, 8, 9, 10]), (6, [0, 1, 6, 7, 9, 11]), (7, [0, 1, 6, 7, 9, 11, 12]), (8, [0, 1, 6, 7, 9, 12, 13]), (9, [0, 1, 7, 9, 12, 13]), (10, [0, 1, 4]), (11, [4, 5])], loopAt [], []⟩
theorem S.mul64_k {R : Type} (a b : Int) (k : AVal → List Blk → Option R) : fnEval tis F41 0 G43 Try.f41 [.int .u64 a, .int .u64 b] [] k =
  (k (.tuple [.int .u64 (Go.IntKind.wrap .u64 (Go.IntKind.wrap .u64 (Go.IntKind.wrap .u64 (Int.fdiv a 4294967296 * Int.fdiv b 4294967296) + Int.fdiv (Go.IntKind.wrap .u64 (Go.IntKind.wrap .u64 (Int.fdiv a 4294967296 * bitsA Go.BinOp.and .u64 b 4294967295) + Int.fdiv (Go.IntKind.wrap .u64 (bitsA Go.BinOp.and .u64 a 4294967295 * bitsA Go.BinOp.and .u64 b 4294967295)) 4294967296)) 4294967296) + Int.fdiv (Go.IntKind.wrap .u64 (bitsA Go.BinOp.and .u64 (Go.IntKind.wrap .u64 (Go.IntKind.wrap .u64 (Int.fdiv a 4294967296 * bitsA Go.BinOp.and .u64 b 4294967295) + Int.fdiv (Go.IntKind.wrap .u64 (bitsA Go.BinOp.and .u64 a 4294967295 * bitsA Go.BinOp.and .u64 b 4294967295)) 4294967296)) 4294967295 + Go.IntKind.wrap .u64 (bitsA Go.BinOp.and .u64 a 4294967295 * Int.fdiv b 4294967296))) 4294967296)), .int .u64 (Go.IntKind.wrap .u64 (a * b))]) ([])) := by kernel_rfl
def S.mul64 (a b : Int) : Int × Int :=
  (Go.IntKind.wrap .u64 (Go.IntKind.wrap .u64 (Go.IntKind.wrap .u64 (Int.fdiv a 4294967296 * Int.fdiv b 4294967296) + Int.fdiv (Go.IntKind.wrap .u64 (Go.IntKind.wrap .u64 (Int.fdiv a 4294967296 * bitsA Go.BinOp.and .u64 b 4294967295) + Int.fdiv (Go.IntKind.wrap .u64 (bitsA Go.BinOp.and .u64 a 4294967295 * bitsA Go.BinOp.and .u64 b 4294967295)) 4294967296)) 4294967296) + Int.fdiv (Go.IntKind.wrap .u64 (bitsA Go.BinOp.and .u64 (Go.IntKind.wrap .u64 (Go.IntKind.wrap .u64 (Int.fdiv a 4294967296 * bitsA Go.BinOp.and .u64 b 4294967295) + Int.fdiv (Go.IntKind.wrap .u64 (bitsA Go.BinOp.and .u64 a 4294967295 * bitsA Go.BinOp.and .u64 b 4294967295)) 4294967296)) 4294967295 + Go.IntKind.wrap .u64 (bitsA Go.BinOp.and .u64 a 4294967295 * Int.fdiv b 4294967296))) 4294967296), Go.IntKind.wrap .u64 (a * b))
theorem S.mul64_v {R : Type} (a b : Int) (k : AVal → List Blk → Option R) : fnEval tis F41 0 G43 Try.f41 [.int .u64 a, .int .u64 b] [] k = k (.tuple [(.int .u64 (S.mul64 a b).1), (.int .u64 (S.mul64 a b).2)]) [] :=
  (S.mul64_k a b k).trans rfl
def H41 : Hnd := fun R args σ k => match args, σ with
  | [.int .u64 a, .int .u64 b], [] => k (.tuple [(.int .u64 (S.mul64 a b).1), (.int .u64 (S.mul64 a b).2)]) []
  | _, _ => none
theorem H41_ok : HndOk Try.prog 41 H41 := hnd_ok tis tisOk mixOk G43_ok F41 Try.func41 rfl (by
  intro R args σ k r h
  unfold H41 at h
  split at h
  · rename_i a b; exact ⟨0, (S.mul64_v a b _).trans h⟩
  · cases h)
def G41 : Env := Env.add 41 H41 G43
theorem G41_ok : EnvOk Try.prog G41 := envAdd_ok H41_ok G43_ok

/-! math/bits.Len64 -/
def F53 : FCfg := ⟨keepAt [(0, [0, 2]), (1, [0, 2, 4]), (2, [0]), (3, [0, 2]), (4, [0, 2, 8]), (5, [0, 2]), (6, [0, 2]), (7, [0, 2, 14]), (8, [0, 2]), (9, [0, 2]), (10, [2])], loopAt [], []⟩
theorem S.len64_k {R : Type} (a : Int) (k : AVal → List Blk → Option R) : fnEval tis F53 0 G41 Try.f53 [.int .u64 a] [] k =
  (bif decide (4294967296 ≤ a) then
    bif decide (65536 ≤ Int.fdiv a 4294967296) then
      bif decide (256 ≤ Int.fdiv (Int.fdiv a 4294967296) 65536) then
        bif inB (Go.IntKind.wrap .u8 (Int.fdiv (Int.fdiv (Int.fdiv a 4294967296) 65536) 256)) 256 then
          k (.int .i64 (Go.IntKind.wrap .i64 (56 + Go.IntKind.wrap .i64 (byteAt (bs [0, 1, 2, 2, 3, 3, 3, 3, 4, 4, 4, 4, 4, 4, 4, 4, 5, 5, 5, 5, 5, 5, 5, 5, 5, 5, 5, 5, 5, 5, 5, 5, 6, 6, 6, 6, 6, 6, 6, 6, 6, 6, 6, 6, 6, 6, 6, 6, 6, 6, 6, 6, 6, 6, 6, 6, 6, 6, 6, 6, 6, 6, 6, 6, 7, 7, 7, 7, 7, 7, 7, 7, 7, 7, 7, 7, 7, 7, 7, 7, 7, 7, 7, 7, 7, 7, 7, 7, 7, 7, 7, 7, 7, 7, 7, 7, 7, 7, 7, 7, 7, 7, 7, 7, 7, 7, 7, 7, 7, 7, 7, 7, 7, 7, 7, 7, 7, 7, 7, 7, 7, 7, 7, 7, 7, 7, 7, 7, 8, 8, 8, 8, 8, 8, 8, 8, 8, 8, 8, 8, 8, 8, 8, 8, 8, 8, 8, 8, 8, 8, 8, 8, 8, 8, 8, 8, 8, 8, 8, 8, 8, 8, 8, 8, 8, 8, 8, 8, 8, 8, 8, 8, 8, 8, 8, 8, 8, 8, 8, 8, 8, 8, 8, 8, 8, 8, 8, 8, 8, 8, 8, 8, 8, 8, 8, 8, 8, 8, 8, 8, 8, 8, 8, 8, 8, 8, 8, 8, 8, 8, 8, 8, 8, 8, 8, 8, 8, 8, 8, 8, 8, 8, 8, 8, 8, 8, 8, 8, 8, 8, 8, 8, 8, 8, 8, 8, 8, 8, 8, 8, 8, 8, 8, 8, 8, 8, 8, 8, 8, 8, 8, 8, 8, 8, 8, 8]) (Int.toNat (Go.IntKind.wrap .u8 (Int.fdiv (Int.fdiv (Int.fdiv a 4294967296) 65536) 256))))))) ([])
        else
          none
      else
        bif inB (Go.IntKind.wrap .u8 (Int.fdiv (Int.fdiv a 4294967296) 65536)) 256 then
          k (.int .i64 (Go.IntKind.wrap .i64 (48 + Go.IntKind.wrap .i64 (byteAt (bs [0, 1, 2, 2, 3, 3, 3, 3, 4, 4, 4, 4, 4, 4, 4, 4, 5, 5, 5, 5, 5, 5, 5, 5, 5, 5, 5, 5, 5, 5, 5, 5, 6, 6, 6, 6, 6, 6, 6, 6, 6, 6, 6, 6, 6, 6, 6, 6, 6, 6, 6, 6, 6, 6, 6, 6, 6, 6, 6, 6, 6, 6, 6, 6, 7, 7, 7, 7, 7, 7, 7, 7, 7, 7, 7, 7, 7, 7, 7, 7, 7, 7, 7, 7, 7, 7, 7, 7, 7, 7, 7, 7, 7, 7, 7, 7, 7, 7, 7, 7, 7, 7, 7, 7, 7, 7, 7, 7, 7, 7, 7, 7, 7, 7, 7, 7, 7, 7, 7, 7, 7, 7, 7, 7, 7, 7, 7, 7, 8, 8, 8, 8, 8, 8, 8, 8, 8, 8, 8, 8, 8, 8, 8, 8, 8, 8, 8, 8, 8, 8, 8, 8, 8, 8, 8, 8, 8, 8, 8, 8, 8, 8, 8, 8, 8, 8, 8, 8, 8, 8, 8, 8, 8, 8, 8, 8, 8, 8, 8, 8, 8, 8, 8, 8, 8, 8, 8, 8, 8, 8, 8, 8, 8, 8, 8, 8, 8, 8, 8, 8, 8, 8, 8, 8, 8, 8, 8, 8, 8, 8, 8, 8, 8, 8, 8, 8, 8, 8, 8, 8, 8, 8, 8, 8, 8, 8, 8, 8, 8, 8, 8, 8, 8, 8, 8, 8, 8, 8, 8, 8, 8, 8, 8, 8, 8, 8, 8, 8, 8, 8, 8, 8, 8, 8, 8, 8]) (Int.toNat (Go.IntKind.wrap .u8 (Int.fdiv (Int.fdiv a 4294967296) 65536))))))) ([])
        else
          none
    else
      bif decide (256 ≤ Int.fdiv a 4294967296) then
        bif inB (Go.IntKind.wrap .u8 (Int.fdiv (Int.fdiv a 4294967296) 256)) 256 then
          k (.int .i64 (Go.IntKind.wrap .i64 (40 + Go.IntKind.wrap .i64 (byteAt (bs [0, 1, 2, 2, 3, 3, 3, 3, 4, 4, 4, 4, 4, 4, 4, 4, 5, 5, 5, 5, 5, 5, 5, 5, 5, 5, 5, 5, 5, 5, 5, 5, 6, 6, 6, 6, 6, 6, 6, 6, 6, 6, 6, 6, 6, 6, 6, 6, 6, 6, 6, 6, 6, 6, 6, 6, 6, 6, 6, 6, 6, 6, 6, 6, 7, 7, 7, 7, 7, 7, 7, 7, 7, 7, 7, 7, 7, 7, 7, 7, 7, 7, 7, 7, 7, 7, 7, 7, 7, 7, 7, 7, 7, 7, 7, 7, 7, 7, 7, 7, 7, 7, 7, 7, 7, 7, 7, 7, 7, 7, 7, 7, 7, 7, 7, 7, 7, 7, 7, 7, 7, 7, 7, 7, 7, 7, 7, 7, 8, 8, 8, 8, 8, 8, 8, 8, 8, 8, 8, 8, 8, 8, 8, 8, 8, 8, 8, 8, 8, 8, 8, 8, 8, 8, 8, 8, 8, 8, 8, 8, 8, 8, 8, 8, 8, 8, 8, 8, 8, 8, 8, 8, 8, 8, 8, 8, 8, 8, 8, 8, 8, 8, 8, 8, 8, 8, 8, 8, 8, 8, 8, 8, 8, 8, 8, 8, 8, 8, 8, 8, 8, 8, 8, 8, 8, 8, 8, 8, 8, 8, 8, 8, 8, 8, 8, 8, 8, 8, 8, 8, 8, 8, 8, 8, 8, 8, 8, 8, 8, 8, 8, 8, 8, 8, 8, 8, 8, 8, 8, 8, 8, 8, 8, 8, 8, 8, 8, 8, 8, 8, 8, 8, 8, 8, 8, 8]) (Int.toNat (Go.IntKind.wrap .u8 (Int.fdiv (Int.fdiv a 4294967296) 256))))))) ([])
        else
          none
      else
        bif inB (Go.IntKind.wrap .u8 (Int.fdiv a 4294967296)) 256 then
          k (.int .i64 (Go.IntKind.wrap .i64 (32 + Go.IntKind.wrap .i64 (byteAt (bs [0, 1, 2, 2, 3, 3, 3, 3, 4, 4, 4, 4, 4, 4, 4, 4, 5, 5, 5, 5, 5, 5, 5, 5, 5, 5, 5, 5, 5, 5, 5, 5, 6, 6, 6, 6, 6, 6, 6, 6, 6, 6, 6, 6, 6, 6, 6, 6, 6, 6, 6, 6, 6, 6, 6, 6, 6, 6, 6, 6, 6, 6, 6, 6, 7, 7, 7, 7, 7, 7, 7, 7, 7, 7, 7, 7, 7, 7, 7, 7, 7, 7, 7, 7, 7, 7, 7, 7, 7, 7, 7, 7, 7, 7, 7, 7, 7, 7, 7, 7, 7, 7, 7, 7, 7, 7, 7, 7, 7, 7, 7, 7, 7, 7, 7, 7, 7, 7, 7, 7, 7, 7, 7, 7, 7, 7, 7, 7, 8, 8, 8, 8, 8, 8, 8, 8, 8, 8, 8, 8, 8, 8, 8, 8, 8, 8, 8, 8, 8, 8, 8, 8, 8, 8, 8, 8, 8, 8, 8, 8, 8, 8, 8, 8, 8, 8, 8, 8, 8, 8, 8, 8, 8, 8, 8, 8, 8, 8, 8, 8, 8, 8, 8, 8, 8, 8, 8, 8, 8, 8, 8, 8, 8, 8, 8, 8, 8, 8, 8, 8, 8, 8, 8, 8, 8, 8, 8, 8, 8, 8, 8, 8, 8, 8, 8, 8, 8, 8, 8, 8, 8, 8, 8, 8, 8, 8, 8, 8, 8, 8, 8, 8, 8, 8, 8, 8, 8, 8, 8, 8, 8, 8, 8, 8, 8, 8, 8, 8, 8, 8, 8, 8, 8, 8, 8, 8]) (Int.toNat (Go.IntKind.wrap .u8 (Int.fdiv a 4294967296))))))) ([])
        else
          none
  else
    bif decide (65536 ≤ a) then
      bif decide (256 ≤ Int.fdiv a 65536) then
        bif inB (Go.IntKind.wrap .u8 (Int.fdiv (Int.fdiv a 65536) 256)) 256 then
          k (.int .i64 (Go.IntKind.wrap .i64 (24 + Go.IntKind.wrap .i64 (byteAt (bs [0, 1, 2, 2, 3, 3, 3, 3, 4, 4, 4, 4, 4, 4, 4, 4, 5, 5, 5, 5, 5, 5, 5, 5, 5, 5, 5, 5, 5, 5, 5, 5, 6, 6, 6, 6, 6, 6, 6, 6, 6, 6, 6, 6, 6, 6, 6, 6, 6, 6, 6, 6, 6, 6, 6, 6, 6, 6, 6, 6, 6, 6, 6, 6, 7, 7, 7, 7, 7, 7, 7, 7, 7, 7, 7, 7, 7, 7, 7, 7, 7, 7, 7, 7, 7, 7, 7, 7, 7, 7, 7, 7, 7, 7, 7, 7, 7, 7, 7, 7, 7, 7, 7, 7, 7, 7, 7, 7, 7, 7, 7, 7, 7, 7, 7, 7, 7, 7, 7, 7, 7, 7, 7, 7, 7, 7, 7, 7, 8, 8, 8, 8, 8, 8, 8, 8, 8, 8, 8, 8, 8, 8, 8, 8, 8, 8, 8, 8, 8, 8, 8, 8, 8, 8, 8, 8, 8, 8, 8, 8, 8, 8, 8, 8, 8, 8, 8, 8, 8, 8, 8, 8, 8, 8, 8, 8, 8, 8, 8, 8, 8, 8, 8, 8, 8, 8, 8, 8, 8, 8, 8, 8, 8, 8, 8, 8, 8, 8, 8, 8, 8, 8, 8, 8, 8, 8, 8, 8, 8, 8, 8, 8, 8, 8, 8, 8, 8, 8, 8, 8, 8, 8, 8, 8, 8, 8, 8, 8, 8, 8, 8, 8, 8, 8, 8, 8, 8, 8, 8, 8, 8, 8, 8, 8, 8, 8, 8, 8, 8, 8, 8, 8, 8, 8, 8, 8]) (Int.toNat (Go.IntKind.wrap .u8 (Int.fdiv (Int.fdiv a 65536) 256))))))) ([])
        else
          none
      else
        bif inB (Go.IntKind.wrap .u8 (Int.fdiv a 65536)) 256 then
          k (.int .i64 (Go.IntKind.wrap .i64 (16 + Go.IntKind.wrap .i64 (byteAt (bs [0, 1, 2, 2, 3, 3, 3, 3, 4, 4, 4, 4, 4, 4, 4, 4, 5, 5, 5, 5, 5, 5, 5, 5, 5, 5, 5, 5, 5, 5, 5, 5, 6, 6, 6, 6, 6, 6, 6, 6, 6, 6, 6, 6, 6, 6, 6, 6, 6, 6, 6, 6, 6, 6, 6, 6, 6, 6, 6, 6, 6, 6, 6, 6, 7, 7, 7, 7, 7, 7, 7, 7, 7, 7, 7, 7, 7, 7, 7, 7, 7, 7, 7, 7, 7, 7, 7, 7, 7, 7, 7, 7, 7, 7, 7, 7, 7, 7, 7, 7, 7, 7, 7, 7, 7, 7, 7, 7, 7, 7, 7, 7, 7, 7, 7, 7, 7, 7, 7, 7, 7, 7, 7, 7, 7, 7, 7, 7, 8, 8, 8, 8, 8, 8, 8, 8, 8, 8, 8, 8, 8, 8, 8, 8, 8, 8, 8, 8, 8, 8, 8, 8, 8, 8, 8, 8, 8, 8, 8, 8, 8, 8, 8, 8, 8, 8, 8, 8, 8, 8, 8, 8, 8, 8, 8, 8, 8, 8, 8, 8, 8, 8, 8, 8, 8, 8, 8, 8, 8, 8, 8, 8, 8, 8, 8, 8, 8, 8, 8, 8, 8, 8, 8, 8, 8, 8, 8, 8, 8, 8, 8, 8, 8, 8, 8, 8, 8, 8, 8, 8, 8, 8, 8, 8, 8, 8, 8, 8, 8, 8, 8, 8, 8, 8, 8, 8, 8, 8, 8, 8, 8, 8, 8, 8, 8, 8, 8, 8, 8, 8, 8, 8, 8, 8, 8, 8]) (Int.toNat (Go.IntKind.wrap .u8 (Int.fdiv a 65536))))))) ([])
        else
          none
    else
      bif decide (256 ≤ a) then
        bif inB (Go.IntKind.wrap .u8 (Int.fdiv a 256)) 256 then
          k (.int .i64 (Go.IntKind.wrap .i64 (8 + Go.IntKind.wrap .i64 (byteAt (bs [0, 1, 2, 2, 3, 3, 3, 3, 4, 4, 4, 4, 4, 4, 4, 4, 5, 5, 5, 5, 5, 5, 5, 5, 5, 5, 5, 5, 5, 5, 5, 5, 6, 6, 6, 6, 6, 6, 6, 6, 6, 6, 6, 6, 6, 6, 6, 6, 6, 6, 6, 6, 6, 6, 6, 6, 6, 6, 6, 6, 6, 6, 6, 6, 7, 7, 7, 7, 7, 7, 7, 7, 7, 7, 7, 7, 7, 7, 7, 7, 7, 7, 7, 7, 7, 7, 7, 7, 7, 7, 7, 7, 7, 7, 7, 7, 7, 7, 7, 7, 7, 7, 7, 7, 7, 7, 7, 7, 7, 7, 7, 7, 7, 7, 7, 7, 7, 7, 7, 7, 7, 7, 7, 7, 7, 7, 7, 7, 8, 8, 8, 8, 8, 8, 8, 8, 8, 8, 8, 8, 8, 8, 8, 8, 8, 8, 8, 8, 8, 8, 8, 8, 8, 8, 8, 8, 8, 8, 8, 8, 8, 8, 8, 8, 8, 8, 8, 8, 8, 8, 8, 8, 8, 8, 8, 8, 8, 8, 8, 8, 8, 8, 8, 8, 8, 8, 8, 8, 8, 8, 8, 8, 8, 8, 8, 8, 8, 8, 8, 8, 8, 8, 8, 8, 8, 8, 8, 8, 8, 8, 8, 8, 8, 8, 8, 8, 8, 8, 8, 8, 8, 8, 8, 8, 8, 8, 8, 8, 8, 8, 8, 8, 8, 8, 8, 8, 8, 8, 8, 8, 8, 8, 8, 8, 8, 8, 8, 8, 8, 8, 8, 8, 8, 8, 8, 8]) (Int.toNat (Go.IntKind.wrap .u8 (Int.fdiv a 256))))))) ([])
        else
          none
      else
        bif inB (Go.IntKind.wrap .u8 a) 256 then
          k (.int .i64 (Go.IntKind.wrap .i64 (0 + Go.IntKind.wrap .i64 (byteAt (bs [0, 1, 2, 2, 3, 3, 3, 3, 4, 4, 4, 4, 4, 4, 4, 4, 5, 5, 5, 5, 5, 5, 5, 5, 5, 5, 5, 5, 5, 5, 5, 5, 6, 6, 6, 6, 6, 6, 6, 6, 6, 6, 6, 6, 6, 6, 6, 6, 6, 6, 6, 6, 6, 6, 6, 6, 6, 6, 6, 6, 6, 6, 6, 6, 7, 7, 7, 7, 7, 7, 7, 7, 7, 7, 7, 7, 7, 7, 7, 7, 7, 7, 7, 7, 7, 7, 7, 7, 7, 7, 7, 7, 7, 7, 7, 7, 7, 7, 7, 7, 7, 7, 7, 7, 7, 7, 7, 7, 7, 7, 7, 7, 7, 7, 7, 7, 7, 7, 7, 7, 7, 7, 7, 7, 7, 7, 7, 7, 8, 8, 8, 8, 8, 8, 8, 8, 8, 8, 8, 8, 8, 8, 8, 8, 8, 8, 8, 8, 8, 8, 8, 8, 8, 8, 8, 8, 8, 8, 8, 8, 8, 8, 8, 8, 8, 8, 8, 8, 8, 8, 8, 8, 8, 8, 8, 8, 8, 8, 8, 8, 8, 8, 8, 8, 8, 8, 8, 8, 8, 8, 8, 8, 8, 8, 8, 8, 8, 8, 8, 8, 8, 8, 8, 8, 8, 8, 8, 8, 8, 8, 8, 8, 8, 8, 8, 8, 8, 8, 8, 8, 8, 8, 8, 8, 8, 8, 8, 8, 8, 8, 8, 8, 8, 8, 8, 8, 8, 8, 8, 8, 8, 8, 8, 8, 8, 8, 8, 8, 8, 8, 8, 8, 8, 8, 8, 8]) (Int.toNat (Go.IntKind.wrap .u8 a)))))) ([])
        else
          none) := by kernel_rfl
def S.len64 (a : Int) : Option (Int) :=
  bif decide (4294967296 ≤ a) then
    bif decide (65536 ≤ Int.fdiv a 4294967296) then
      bif decide (256 ≤ Int.fdiv (Int.fdiv a 4294967296) 65536) then
        bif inB (Go.IntKind.wrap .u8 (Int.fdiv (Int.fdiv (Int.fdiv a 4294967296) 65536) 256)) 256 then
          some (Go.IntKind.wrap .i64 (56 + Go.IntKind.wrap .i64 (byteAt (bs [0, 1, 2, 2, 3, 3, 3, 3, 4, 4, 4, 4, 4, 4, 4, 4, 5, 5, 5, 5, 5, 5, 5, 5, 5, 5, 5, 5, 5, 5, 5, 5, 6, 6, 6, 6, 6, 6, 6, 6, 6, 6, 6, 6, 6, 6, 6, 6, 6, 6, 6, 6, 6, 6, 6, 6, 6, 6, 6, 6, 6, 6, 6, 6, 7, 7, 7, 7, 7, 7, 7, 7, 7, 7, 7, 7, 7, 7, 7, 7, 7, 7, 7, 7, 7, 7, 7, 7, 7, 7, 7, 7, 7, 7, 7, 7, 7, 7, 7, 7, 7, 7, 7, 7, 7, 7, 7, 7, 7, 7, 7, 7, 7, 7, 7, 7, 7, 7, 7, 7, 7, 7, 7, 7, 7, 7, 7, 7, 8, 8, 8, 8, 8, 8, 8, 8, 8, 8, 8, 8, 8, 8, 8, 8, 8, 8, 8, 8, 8, 8, 8, 8, 8, 8, 8, 8, 8, 8, 8, 8, 8, 8, 8, 8, 8, 8, 8, 8, 8, 8, 8, 8, 8, 8, 8, 8, 8, 8, 8, 8, 8, 8, 8, 8, 8, 8, 8, 8, 8, 8, 8, 8, 8, 8, 8, 8, 8, 8, 8, 8, 8, 8, 8, 8, 8, 8, 8, 8, 8, 8, 8, 8, 8, 8, 8, 8, 8, 8, 8, 8, 8, 8, 8, 8, 8, 8, 8, 8, 8, 8, 8, 8, 8, 8, 8, 8, 8, 8, 8, 8, 8, 8, 8, 8, 8, 8, 8, 8, 8, 8, 8, 8, 8, 8, 8, 8]) (Int.toNat (Go.IntKind.wrap .u8 (Int.fdiv (Int.fdiv (Int.fdiv a 4294967296) 65536) 256))))))
        else
          none
      else
        bif inB (Go.IntKind.wrap .u8 (Int.fdiv (Int.fdiv a 4294967296) 65536)) 256 then
          some (Go.IntKind.wrap .i64 (48 + Go.IntKind.wrap .i64 (byteAt (bs [0, 1, 2, 2, 3, 3, 3, 3, 4, 4, 4, 4, 4, 4, 4, 4, 5, 5, 5, 5, 5, 5, 5, 5, 5, 5, 5, 5, 5, 5, 5, 5, 6, 6, 6, 6, 6, 6, 6, 6, 6, 6, 6, 6, 6, 6, 6, 6, 6, 6, 6, 6, 6, 6, 6, 6, 6, 6, 6, 6, 6, 6, 6, 6, 7, 7, 7, 7, 7, 7, 7, 7, 7, 7, 7, 7, 7, 7, 7, 7, 7, 7, 7, 7, 7, 7, 7, 7, 7, 7, 7, 7, 7, 7, 7, 7, 7, 7, 7, 7, 7, 7, 7, 7, 7, 7, 7, 7, 7, 7, 7, 7, 7, 7, 7, 7, 7, 7, 7, 7, 7, 7, 7, 7, 7, 7, 7, 7, 8, 8, 8, 8, 8, 8, 8, 8, 8, 8, 8, 8, 8, 8, 8, 8, 8, 8, 8, 8, 8, 8, 8, 8, 8, 8, 8, 8, 8, 8, 8, 8, 8, 8, 8, 8, 8, 8, 8, 8, 8, 8, 8, 8, 8, 8, 8, 8, 8, 8, 8, 8, 8, 8, 8, 8, 8, 8, 8, 8, 8, 8, 8, 8, 8, 8, 8, 8, 8, 8, 8, 8, 8, 8, 8, 8, 8, 8, 8, 8, 8, 8, 8, 8, 8, 8, 8, 8, 8, 8, 8, 8, 8, 8, 8, 8, 8, 8, 8, 8, 8, 8, 8, 8, 8, 8, 8, 8, 8, 8, 8, 8, 8, 8, 8, 8, 8, 8, 8, 8, 8, 8, 8, 8, 8, 8, 8, 8]) (Int.toNat (Go.IntKind.wrap .u8 (Int.fdiv (Int.fdiv a 4294967296) 65536))))))
        else
          none
    else
      bif decide (256 ≤ Int.fdiv a 4294967296) then
        bif inB (Go.IntKind.wrap .u8 (Int.fdiv (Int.fdiv a 4294967296) 256)) 256 then
          some (Go.IntKind.wrap .i64 (40 + Go.IntKind.wrap .i64 (byteAt (bs [0, 1, 2, 2, 3, 3, 3, 3, 4, 4, 4, 4, 4, 4, 4, 4, 5, 5, 5, 5, 5, 5, 5, 5, 5, 5, 5, 5, 5, 5, 5, 5, 6, 6, 6, 6, 6, 6, 6, 6, 6, 6, 6, 6, 6, 6, 6, 6, 6, 6, 6, 6, 6, 6, 6, 6, 6, 6, 6, 6, 6, 6, 6, 6, 7, 7, 7, 7, 7, 7, 7, 7, 7, 7, 7, 7, 7, 7, 7, 7, 7, 7, 7, 7, 7, 7, 7, 7, 7, 7, 7, 7, 7, 7, 7, 7, 7, 7, 7, 7, 7, 7, 7, 7, 7, 7, 7, 7, 7, 7, 7, 7, 7, 7, 7, 7, 7, 7, 7, 7, 7, 7, 7, 7, 7, 7, 7, 7, 8, 8, 8, 8, 8, 8, 8, 8, 8, 8, 8, 8, 8, 8, 8, 8, 8, 8, 8, 8, 8, 8, 8, 8, 8, 8, 8, 8, 8, 8, 8, 8, 8, 8, 8, 8, 8, 8, 8, 8, 8, 8, 8, 8, 8, 8, 8, 8, 8, 8, 8, 8, 8, 8, 8, 8, 8, 8, 8, 8, 8, 8, 8, 8, 8, 8, 8, 8, 8, 8, 8, 8, 8, 8, 8, 8, 8, 8, 8, 8, 8, 8, 8, 8, 8, 8, 8, 8, 8, 8, 8, 8, 8, 8, 8, 8, 8, 8, 8, 8, 8, 8, 8, 8, 8, 8, 8, 8, 8, 8, 8, 8, 8, 8, 8, 8, 8, 8, 8, 8, 8, 8, 8, 8, 8, 8, 8, 8]) (Int.toNat (Go.IntKind.wrap .u8 (Int.fdiv (Int.fdiv a 4294967296) 256))))))
        else
          none
      else
        bif inB (Go.IntKind.wrap .u8 (Int.fdiv a 4294967296)) 256 then
          some (Go.IntKind.wrap .i64 (32 + Go.IntKind.wrap .i64 (byteAt (bs [0, 1, 2, 2, 3, 3, 3, 3, 4, 4, 4, 4, 4, 4, 4, 4, 5, 5, 5, 5, 5, 5, 5, 5, 5, 5, 5, 5, 5, 5, 5, 5, 6, 6, 6, 6, 6, 6, 6, 6, 6, 6, 6, 6, 6, 6, 6, 6, 6, 6, 6, 6, 6, 6, 6, 6, 6, 6, 6, 6, 6, 6, 6, 6, 7, 7, 7, 7, 7, 7, 7, 7, 7, 7, 7, 7, 7, 7, 7, 7, 7, 7, 7, 7, 7, 7, 7, 7, 7, 7, 7, 7, 7, 7, 7, 7, 7, 7, 7, 7, 7, 7, 7, 7, 7, 7, 7, 7, 7, 7, 7, 7, 7, 7, 7, 7, 7, 7, 7, 7, 7, 7, 7, 7, 7, 7, 7, 7, 8, 8, 8, 8, 8, 8, 8, 8, 8, 8, 8, 8, 8, 8, 8, 8, 8, 8, 8, 8, 8, 8, 8, 8, 8, 8, 8, 8, 8, 8, 8, 8, 8, 8, 8, 8, 8, 8, 8, 8, 8, 8, 8, 8, 8, 8, 8, 8, 8, 8, 8, 8, 8, 8, 8, 8, 8, 8, 8, 8, 8, 8, 8, 8, 8, 8, 8, 8, 8, 8, 8, 8, 8, 8, 8, 8, 8, 8, 8, 8, 8, 8, 8, 8, 8, 8, 8, 8, 8, 8, 8, 8, 8, 8, 8, 8, 8, 8, 8, 8, 8, 8, 8, 8, 8, 8, 8, 8, 8, 8, 8, 8, 8, 8, 8, 8, 8, 8, 8, 8, 8, 8, 8, 8, 8, 8, 8, 8]) (Int.toNat (Go.IntKind.wrap .u8 (Int.fdiv a 4294967296))))))
        else
          none
  else
    bif decide (65536 ≤ a) then
      bif decide (256 ≤ Int.fdiv a 65536) then
        bif inB (Go.IntKind.wrap .u8 (Int.fdiv (Int.fdiv a 65536) 256)) 256 then
          some (Go.IntKind.wrap .i64 (24 + Go.IntKind.wrap .i64 (byteAt (bs [0, 1, 2, 2, 3, 3, 3, 3, 4, 4, 4, 4, 4, 4, 4, 4, 5, 5, 5, 5, 5, 5, 5, 5, 5, 5, 5, 5, 5, 5, 5, 5, 6, 6, 6, 6, 6, 6, 6, 6, 6, 6, 6, 6, 6, 6, 6, 6, 6, 6, 6, 6, 6, 6, 6, 6, 6, 6, 6, 6, 6, 6, 6, 6, 7, 7, 7, 7, 7, 7, 7, 7, 7, 7, 7, 7, 7, 7, 7, 7, 7, 7, 7, 7, 7, 7, 7, 7, 7, 7, 7, 7, 7, 7, 7, 7, 7, 7, 7, 7, 7, 7, 7, 7, 7, 7, 7, 7, 7, 7, 7, 7, 7, 7, 7, 7, 7, 7, 7, 7, 7, 7, 7, 7, 7, 7, 7, 7, 8, 8, 8, 8, 8, 8, 8, 8, 8, 8, 8, 8, 8, 8, 8, 8, 8, 8, 8, 8, 8, 8, 8, 8, 8, 8, 8, 8, 8, 8, 8, 8, 8, 8, 8, 8, 8, 8, 8, 8, 8, 8, 8, 8, 8, 8, 8, 8, 8, 8, 8, 8, 8, 8, 8, 8, 8, 8, 8, 8, 8, 8, 8, 8, 8, 8, 8, 8, 8, 8, 8, 8, 8, 8, 8, 8, 8, 8, 8, 8, 8, 8, 8, 8, 8, 8, 8, 8, 8, 8, 8, 8, 8, 8, 8, 8, 8, 8, 8, 8, 8, 8, 8, 8, 8, 8, 8, 8, 8, 8, 8, 8, 8, 8, 8, 8, 8, 8, 8, 8, 8, 8, 8, 8, 8, 8, 8, 8]) (Int.toNat (Go.IntKind.wrap .u8 (Int.fdiv (Int.fdiv a 65536) 256))))))
        else
          none
      else
        bif inB (Go.IntKind.wrap .u8 (Int.fdiv a 65536)) 256 then
          some (Go.IntKind.wrap .i64 (16 + Go.IntKind.wrap .i64 (byteAt (bs [0, 1, 2, 2, 3, 3, 3, 3, 4, 4, 4, 4, 4, 4, 4, 4, 5, 5, 5, 5, 5, 5, 5, 5, 5, 5, 5, 5, 5, 5, 5, 5, 6, 6, 6, 6, 6, 6, 6, 6, 6, 6, 6, 6, 6, 6, 6, 6, 6, 6, 6, 6, 6, 6, 6, 6, 6, 6, 6, 6, 6, 6, 6, 6, 7, 7, 7, 7, 7, 7, 7, 7, 7, 7, 7, 7, 7, 7, 7, 7, 7, 7, 7, 7, 7, 7, 7, 7, 7, 7, 7, 7, 7, 7, 7, 7, 7, 7, 7, 7, 7, 7, 7, 7, 7, 7, 7, 7, 7, 7, 7, 7, 7, 7, 7, 7, 7, 7, 7, 7, 7, 7, 7, 7, 7, 7, 7, 7, 8, 8, 8, 8, 8, 8, 8, 8, 8, 8, 8, 8, 8, 8, 8, 8, 8, 8, 8, 8, 8, 8, 8, 8, 8, 8, 8, 8, 8, 8, 8, 8, 8, 8, 8, 8, 8, 8, 8, 8, 8, 8, 8, 8, 8, 8, 8, 8, 8, 8, 8, 8, 8, 8, 8, 8, 8, 8, 8, 8, 8, 8, 8, 8, 8, 8, 8, 8, 8, 8, 8, 8, 8, 8, 8, 8, 8, 8, 8, 8, 8, 8, 8, 8, 8, 8, 8, 8, 8, 8, 8, 8, 8, 8, 8, 8, 8, 8, 8, 8, 8, 8, 8, 8, 8, 8, 8, 8, 8, 8, 8, 8, 8, 8, 8, 8, 8, 8, 8, 8, 8, 8, 8, 8, 8, 8, 8, 8]) (Int.toNat (Go.IntKind.wrap .u8 (Int.fdiv a 65536))))))
        else
          none
    else
      bif decide (256 ≤ a) then
        bif inB (Go.IntKind.wrap .u8 (Int.fdiv a 256)) 256 then
          some (Go.IntKind.wrap .i64 (8 + Go.IntKind.wrap .i64 (byteAt (bs [0, 1, 2, 2, 3, 3, 3, 3, 4, 4, 4, 4, 4, 4, 4, 4, 5, 5, 5, 5, 5, 5, 5, 5, 5, 5, 5, 5, 5, 5, 5, 5, 6, 6, 6, 6, 6, 6, 6, 6, 6, 6, 6, 6, 6, 6, 6, 6, 6, 6, 6, 6, 6, 6, 6, 6, 6, 6, 6, 6, 6, 6, 6, 6, 7, 7, 7, 7, 7, 7, 7, 7, 7, 7, 7, 7, 7, 7, 7, 7, 7, 7, 7, 7, 7, 7, 7, 7, 7, 7, 7, 7, 7, 7, 7, 7, 7, 7, 7, 7, 7, 7, 7, 7, 7, 7, 7, 7, 7, 7, 7, 7, 7, 7, 7, 7, 7, 7, 7, 7, 7, 7, 7, 7, 7, 7, 7, 7, 8, 8, 8, 8, 8, 8, 8, 8, 8, 8, 8, 8, 8, 8, 8, 8, 8, 8, 8, 8, 8, 8, 8, 8, 8, 8, 8, 8, 8, 8, 8, 8, 8, 8, 8, 8, 8, 8, 8, 8, 8, 8, 8, 8, 8, 8, 8, 8, 8, 8, 8, 8, 8, 8, 8, 8, 8, 8, 8, 8, 8, 8, 8, 8, 8, 8, 8, 8, 8, 8, 8, 8, 8, 8, 8, 8, 8, 8, 8, 8, 8, 8, 8, 8, 8, 8, 8, 8, 8, 8, 8, 8, 8, 8, 8, 8, 8, 8, 8, 8, 8, 8, 8, 8, 8, 8, 8, 8, 8, 8, 8, 8, 8, 8, 8, 8, 8, 8, 8, 8, 8, 8, 8, 8, 8, 8, 8, 8]) (Int.toNat (Go.IntKind.wrap .u8 (Int.fdiv a 256))))))
        else
          none
      else
        bif inB (Go.IntKind.wrap .u8 a) 256 then
          some (Go.IntKind.wrap .i64 (0 + Go.IntKind.wrap .i64 (byteAt (bs [0, 1, 2, 2, 3, 3, 3, 3, 4, 4, 4, 4, 4, 4, 4, 4, 5, 5, 5, 5, 5, 5, 5, 5, 5, 5, 5, 5, 5, 5, 5, 5, 6, 6, 6, 6, 6, 6, 6, 6, 6, 6, 6, 6, 6, 6, 6, 6, 6, 6, 6, 6, 6, 6, 6, 6, 6, 6, 6, 6, 6, 6, 6, 6, 7, 7, 7, 7, 7, 7, 7, 7, 7, 7, 7, 7, 7, 7, 7, 7, 7, 7, 7, 7, 7, 7, 7, 7, 7, 7, 7, 7, 7, 7, 7, 7, 7, 7, 7, 7, 7, 7, 7, 7, 7, 7, 7, 7, 7, 7, 7, 7, 7, 7, 7, 7, 7, 7, 7, 7, 7, 7, 7, 7, 7, 7, 7, 7, 8, 8, 8, 8, 8, 8, 8, 8, 8, 8, 8, 8, 8, 8, 8, 8, 8, 8, 8, 8, 8, 8, 8, 8, 8, 8, 8, 8, 8, 8, 8, 8, 8, 8, 8, 8, 8, 8, 8, 8, 8, 8, 8, 8, 8, 8, 8, 8, 8, 8, 8, 8, 8, 8, 8, 8, 8, 8, 8, 8, 8, 8, 8, 8, 8, 8, 8, 8, 8, 8, 8, 8, 8, 8, 8, 8, 8, 8, 8, 8, 8, 8, 8, 8, 8, 8, 8, 8, 8, 8, 8, 8, 8, 8, 8, 8, 8, 8, 8, 8, 8, 8, 8, 8, 8, 8, 8, 8, 8, 8, 8, 8, 8, 8, 8, 8, 8, 8, 8, 8, 8, 8, 8, 8, 8, 8, 8, 8]) (Int.toNat (Go.IntKind.wrap .u8 a)))))
        else
          none
theorem S.len64_v {R : Type} (a : Int) (k : AVal → List Blk → Option R) : fnEval tis F53 0 G41 Try.f53 [.int .u64 a] [] k = oK (fun v : Int => k (.int .i64 v) []) (S.len64 a) :=
  (S.len64_k a k).trans (bif_lift (f := (oK (fun v : Int => k (.int .i64 v) []))) (bif_lift (f := (oK (fun v : Int => k (.int .i64 v) []))) (bif_lift (f := (oK (fun v : Int => k (.int .i64 v) []))) (bif_lift (f := (oK (fun v : Int => k (.int .i64 v) []))) rfl rfl) (bif_lift (f := (oK (fun v : Int => k (.int .i64 v) []))) rfl rfl)) (bif_lift (f := (oK (fun v : Int => k (.int .i64 v) []))) (bif_lift (f := (oK (fun v : Int => k (.int .i64 v) []))) rfl rfl) (bif_lift (f := (oK (fun v : Int => k (.int .i64 v) []))) rfl rfl))) (bif_lift (f := (oK (fun v : Int => k (.int .i64 v) []))) (bif_lift (f := (oK (fun v : Int => k (.int .i64 v) []))) (bif_lift (f := (oK (fun v : Int => k (.int .i64 v) []))) rfl rfl) (bif_lift (f := (oK (fun v : Int => k (.int .i64 v) []))) rfl rfl)) (bif_lift (f := (oK (fun v : Int => k (.int .i64 v) []))) (bif_lift (f := (oK (fun v : Int => k (.int .i64 v) []))) rfl rfl) (bif_lift (f := (oK (fun v : Int => k (.int .i64 v) []))) rfl rfl))))
def H53 : Hnd := fun R args σ k => match args, σ with
  | [.int .u64 a], [] => oK (fun v : Int => k (.int .i64 v) []) (S.len64 a)
  | _, _ => none
theorem H53_ok : HndOk Try.prog 53 H53 := hnd_ok tis tisOk mixOk G41_ok F53 Try.func53 rfl (by
  intro R args σ k r h
  unfold H53 at h
  split at h
  · rename_i a; exact ⟨0, (S.len64_v a _).trans h⟩
  · cases h)
def G53 : Env := Env.add 53 H53 G41
theorem G53_ok : EnvOk Try.prog G53 := envAdd_ok H53_ok G41_ok

/-! math/bits.LeadingZeros64 -/
def F52 : FCfg := ⟨keepAt [(0, [0]), (1, [2])], loopAt [], []⟩
theorem S.lz64_k {R : Type} (a : Int) (k : AVal → List Blk → Option R) : fnEval tis F52 0 G53 Try.f52 [.int .u64 a] [] k =
  ((optK (S.len64 a) fun o2 =>
    k (.int .i64 (Go.IntKind.wrap .i64 (64 - o2))) ([]))) := by kernel_rfl
def S.lz64 (a : Int) : Option (Int) :=
  (optK (S.len64 a) fun o2 =>
    some (Go.IntKind.wrap .i64 (64 - o2)))
theorem S.lz64_v {R : Type} (a : Int) (k : AVal → List Blk → Option R) : fnEval tis F52 0 G53 Try.f52 [.int .u64 a] [] k = oK (fun v : Int => k (.int .i64 v) []) (S.lz64 a) :=
  (S.lz64_k a k).trans (opt_lift fun o2 => rfl)
def H52 : Hnd := fun R args σ k => match args, σ with
  | [.int .u64 a], [] => oK (fun v : Int => k (.int .i64 v) []) (S.lz64 a)
  | _, _ => none
theorem H52_ok : HndOk Try.prog 52 H52 := hnd_ok tis tisOk mixOk G53_ok F52 Try.func52 rfl (by
  intro R args σ k r h
  unfold H52 at h
  split at h
  · rename_i a; exact ⟨0, (S.lz64_v a _).trans h⟩
  · cases h)
def G52 : Env := Env.add 52 H52 G53
theorem G52_ok : EnvOk Try.prog G52 := envAdd_ok H52_ok G53_ok

/-! math/bits.Div64 -/
def F44 : FCfg := ⟨keepAt [(0, [0, 1, 2]), (1, [0, 1, 2, 20]), (2, [0, 1, 2]), (3, [0, 1, 2, 24]), (4, [0, 1, 2]), (5, [0, 1, 2, 27]), (6, [6, 7]), (7, [0, 1, 2, 8]), (8, [0, 1, 2, 8]), (9, [0, 1, 2, 8, 9]), (10, [0, 1, 2, 8, 9, 10]), (11, [1, 2, 8, 9, 10, 11]), (12, [2, 8, 9, 10, 11, 12]), (13, [2, 8, 9, 10, 11, 12, 13]), (14, [2, 8, 9, 10, 11, 13, 14]), (15, [2, 8, 9, 10, 11, 13, 14, 15]), (16, [2, 8, 9, 10, 11, 13, 14, 15, 16]), (17, [2, 8, 9, 10, 11, 13, 14, 15, 16, 78]), (18, [2, 8, 9, 10, 11, 13, 14, 15, 16]), (19, [2, 8, 9, 10, 11, 13, 14, 15, 16]), (20, [2, 8, 9, 10, 11, 13, 14, 15, 16, 85]), (21, [2, 8, 9, 10, 14, 15, 17]), (22, [2, 8, 9, 10, 14, 15, 17, 18]), (23, [2, 8, 9, 10, 14, 15, 16, 17, 18]), (24, [2, 8, 9, 10, 14, 15, 16, 17, 18, 113]), (25, [2, 8, 9, 10, 14, 15, 16, 17, 18]), (26, [2, 8, 9, 10, 14, 15, 16, 17, 18]), (27, [2, 8, 9, 10, 14, 15, 16, 17, 18, 120]), (28, [6, 7])], loopAt [(17, [2, 8, 9, 10, 11, 13, 14, 15, 16], []), (24, [2, 8, 9, 10, 14, 15, 16, 17, 18], [])], []⟩
noncomputable def S.div64_b0 : Code := codeAt (bodyOf Try.f44) [1, 1, 1, 1, 1, 1, 1, 1, 1, 1, 1, 1, 1, 1, 0, 0, 0]
noncomputable def S.div64_b1 : Code := codeAt (bodyOf Try.f44) [1, 1, 1, 1, 1, 1, 1, 1, 1, 1, 1, 1, 1, 1, 1, 1, 1, 1, 0, 0, 0]
theorem S.div64_l1_k {R : Type} (fu : Nat) (hi lo b : Int) (n : Nat) (K : Ex → St → Option R) (y0 : Int) (y1 : Int) (y2 : Int) (y3 : Int) (y4 : Int) (y5 : Int) (y6 : Int) (y7 : Int) (y8 : Int) : loopRun (Cfg.of tis F44 fu (List.length ([] : List Blk)) Try.f44.ntmps) G52 S.div64_b1 (n + 1) ⟨[(2, (.int .u64 (y0))), (8, (.int .u64 (y1))), (9, (.int .u64 (y2))), (10, (.int .u64 (y3))), (14, (.int .u64 (y4))), (15, (.int .u64 (y5))), (16, (.int .u64 (y6))), (17, (.int .u64 (y7))), (18, (.int .u64 (y8)))], []⟩ K =
  (bif decide (4294967296 ≤ y8) then
    bif decide (4294967296 ≤ Go.IntKind.wrap .u64 (y6 + y2)) then
      K (Ex.exit 2) ⟨[(2, (.int .u64 (y0))), (8, (.int .u64 (y1))), (9, (.int .u64 (y2))), (10, (.int .u64 (y3))), (14, (.int .u64 (y4))), (15, (.int .u64 (y5))), (16, (.int .u64 (Go.IntKind.wrap .u64 (y6 + y2)))), (17, (.int .u64 (y7))), (18, (.int .u64 (Go.IntKind.wrap .u64 (y8 - 1)))), (120, (.bool (decide (4294967296 ≤ Go.IntKind.wrap .u64 (y6 + y2)))))], []⟩
    else
      loopRun (Cfg.of tis F44 fu (List.length ([] : List Blk)) Try.f44.ntmps) G52 S.div64_b1 n ⟨[(2, (.int .u64 (y0))), (8, (.int .u64 (y1))), (9, (.int .u64 (y2))), (10, (.int .u64 (y3))), (14, (.int .u64 (y4))), (15, (.int .u64 (y5))), (16, (.int .u64 (Go.IntKind.wrap .u64 (y6 + y2)))), (17, (.int .u64 (y7))), (18, (.int .u64 (Go.IntKind.wrap .u64 (y8 - 1))))], []⟩ K
  else
    bif decide (Go.IntKind.wrap .u64 (Go.IntKind.wrap .u64 (4294967296 * y6) + y4) < Go.IntKind.wrap .u64 (y8 * y3)) then
      bif decide (4294967296 ≤ Go.IntKind.wrap .u64 (y6 + y2)) then
        K (Ex.exit 2) ⟨[(2, (.int .u64 (y0))), (8, (.int .u64 (y1))), (9, (.int .u64 (y2))), (10, (.int .u64 (y3))), (14, (.int .u64 (y4))), (15, (.int .u64 (y5))), (16, (.int .u64 (Go.IntKind.wrap .u64 (y6 + y2)))), (17, (.int .u64 (y7))), (18, (.int .u64 (Go.IntKind.wrap .u64 (y8 - 1)))), (120, (.bool (decide (4294967296 ≤ Go.IntKind.wrap .u64 (y6 + y2)))))], []⟩
      else
        loopRun (Cfg.of tis F44 fu (List.length ([] : List Blk)) Try.f44.ntmps) G52 S.div64_b1 n ⟨[(2, (.int .u64 (y0))), (8, (.int .u64 (y1))), (9, (.int .u64 (y2))), (10, (.int .u64 (y3))), (14, (.int .u64 (y4))), (15, (.int .u64 (y5))), (16, (.int .u64 (Go.IntKind.wrap .u64 (y6 + y2)))), (17, (.int .u64 (y7))), (18, (.int .u64 (Go.IntKind.wrap .u64 (y8 - 1))))], []⟩ K
    else
      K (Ex.exit 2) ⟨[(2, (.int .u64 (y0))), (8, (.int .u64 (y1))), (9, (.int .u64 (y2))), (10, (.int .u64 (y3))), (14, (.int .u64 (y4))), (15, (.int .u64 (y5))), (16, (.int .u64 (y6))), (17, (.int .u64 (y7))), (18, (.int .u64 (y8))), (113, (.bool (decide (Go.IntKind.wrap .u64 (Go.IntKind.wrap .u64 (4294967296 * y6) + y4) < Go.IntKind.wrap .u64 (y8 * y3)))))], []⟩) := by kernel_rfl
def S.div64_l1 (fu : Nat) (hi lo b : Int) : Nat → (Int) → (Int) → (Int) → (Int) → (Int) → (Int) → (Int) → (Int) → (Int) → Option ((Int × Int × Int × Int × Int × Int × Int × Int × Int × Bool) ⊕ (Int × Int × Int × Int × Int × Int × Int × Int × Int × Bool))
  | 0, _, _, _, _, _, _, _, _, _ => none
  | n + 1, y0, y1, y2, y3, y4, y5, y6, y7, y8 =>
    bif decide (4294967296 ≤ y8) then
      bif decide (4294967296 ≤ Go.IntKind.wrap .u64 (y6 + y2)) then
        some (.inl (y0, y1, y2, y3, y4, y5, Go.IntKind.wrap .u64 (y6 + y2), y7, Go.IntKind.wrap .u64 (y8 - 1), decide (4294967296 ≤ Go.IntKind.wrap .u64 (y6 + y2))))
      else
        (S.div64_l1 fu hi lo b n) (y0) (y1) (y2) (y3) (y4) (y5) (Go.IntKind.wrap .u64 (y6 + y2)) (y7) (Go.IntKind.wrap .u64 (y8 - 1))
    else
      bif decide (Go.IntKind.wrap .u64 (Go.IntKind.wrap .u64 (4294967296 * y6) + y4) < Go.IntKind.wrap .u64 (y8 * y3)) then
        bif decide (4294967296 ≤ Go.IntKind.wrap .u64 (y6 + y2)) then
          some (.inl (y0, y1, y2, y3, y4, y5, Go.IntKind.wrap .u64 (y6 + y2), y7, Go.IntKind.wrap .u64 (y8 - 1), decide (4294967296 ≤ Go.IntKind.wrap .u64 (y6 + y2))))
        else
          (S.div64_l1 fu hi lo b n) (y0) (y1) (y2) (y3) (y4) (y5) (Go.IntKind.wrap .u64 (y6 + y2)) (y7) (Go.IntKind.wrap .u64 (y8 - 1))
      else
        some (.inr (y0, y1, y2, y3, y4, y5, y6, y7, y8, decide (Go.IntKind.wrap .u64 (Go.IntKind.wrap .u64 (4294967296 * y6) + y4) < Go.IntKind.wrap .u64 (y8 * y3))))
theorem S.div64_l1_v {R : Type} (fu : Nat) (hi lo b : Int) (K : Ex → St → Option R) : ∀ (n : Nat) (y0 : Int) (y1 : Int) (y2 : Int) (y3 : Int) (y4 : Int) (y5 : Int) (y6 : Int) (y7 : Int) (y8 : Int), loopRun (Cfg.of tis F44 fu (List.length ([] : List Blk)) Try.f44.ntmps) G52 S.div64_b1 n ⟨[(2, (.int .u64 (y0))), (8, (.int .u64 (y1))), (9, (.int .u64 (y2))), (10, (.int .u64 (y3))), (14, (.int .u64 (y4))), (15, (.int .u64 (y5))), (16, (.int .u64 (y6))), (17, (.int .u64 (y7))), (18, (.int .u64 (y8)))], []⟩ K = oK (β := (Int × Int × Int × Int × Int × Int × Int × Int × Int × Bool) ⊕ (Int × Int × Int × Int × Int × Int × Int × Int × Int × Bool)) (Sum.elim (fun z : Int × Int × Int × Int × Int × Int × Int × Int × Int × Bool => K (Ex.exit 2) ⟨[(2, (.int .u64 (z.1))), (8, (.int .u64 (z.2.1))), (9, (.int .u64 (z.2.2.1))), (10, (.int .u64 (z.2.2.2.1))), (14, (.int .u64 (z.2.2.2.2.1))), (15, (.int .u64 (z.2.2.2.2.2.1))), (16, (.int .u64 (z.2.2.2.2.2.2.1))), (17, (.int .u64 (z.2.2.2.2.2.2.2.1))), (18, (.int .u64 (z.2.2.2.2.2.2.2.2.1))), (120, (.bool (z.2.2.2.2.2.2.2.2.2)))], []⟩) (fun z : Int × Int × Int × Int × Int × Int × Int × Int × Int × Bool => K (Ex.exit 2) ⟨[(2, (.int .u64 (z.1))), (8, (.int .u64 (z.2.1))), (9, (.int .u64 (z.2.2.1))), (10, (.int .u64 (z.2.2.2.1))), (14, (.int .u64 (z.2.2.2.2.1))), (15, (.int .u64 (z.2.2.2.2.2.1))), (16, (.int .u64 (z.2.2.2.2.2.2.1))), (17, (.int .u64 (z.2.2.2.2.2.2.2.1))), (18, (.int .u64 (z.2.2.2.2.2.2.2.2.1))), (113, (.bool (z.2.2.2.2.2.2.2.2.2)))], []⟩)) (S.div64_l1 fu hi lo b n y0 y1 y2 y3 y4 y5 y6 y7 y8)
  | 0, _, _, _, _, _, _, _, _, _ => rfl
  | n + 1, y0, y1, y2, y3, y4, y5, y6, y7, y8 => (S.div64_l1_k fu hi lo b n K y0 y1 y2 y3 y4 y5 y6 y7 y8).trans (bif_lift (f := (oK (β := (Int × Int × Int × Int × Int × Int × Int × Int × Int × Bool) ⊕ (Int × Int × Int × Int × Int × Int × Int × Int × Int × Bool)) (Sum.elim (fun z : Int × Int × Int × Int × Int × Int × Int × Int × Int × Bool => K (Ex.exit 2) ⟨[(2, (.int .u64 (z.1))), (8, (.int .u64 (z.2.1))), (9, (.int .u64 (z.2.2.1))), (10, (.int .u64 (z.2.2.2.1))), (14, (.int .u64 (z.2.2.2.2.1))), (15, (.int .u64 (z.2.2.2.2.2.1))), (16, (.int .u64 (z.2.2.2.2.2.2.1))), (17, (.int .u64 (z.2.2.2.2.2.2.2.1))), (18, (.int .u64 (z.2.2.2.2.2.2.2.2.1))), (120, (.bool (z.2.2.2.2.2.2.2.2.2)))], []⟩) (fun z : Int × Int × Int × Int × Int × Int × Int × Int × Int × Bool => K (Ex.exit 2) ⟨[(2, (.int .u64 (z.1))), (8, (.int .u64 (z.2.1))), (9, (.int .u64 (z.2.2.1))), (10, (.int .u64 (z.2.2.2.1))), (14, (.int .u64 (z.2.2.2.2.1))), (15, (.int .u64 (z.2.2.2.2.2.1))), (16, (.int .u64 (z.2.2.2.2.2.2.1))), (17, (.int .u64 (z.2.2.2.2.2.2.2.1))), (18, (.int .u64 (z.2.2.2.2.2.2.2.2.1))), (113, (.bool (z.2.2.2.2.2.2.2.2.2)))], []⟩)))) (bif_lift (f := (oK (β := (Int × Int × Int × Int × Int × Int × Int × Int × Int × Bool) ⊕ (Int × Int × Int × Int × Int × Int × Int × Int × Int × Bool)) (Sum.elim (fun z : Int × Int × Int × Int × Int × Int × Int × Int × Int × Bool => K (Ex.exit 2) ⟨[(2, (.int .u64 (z.1))), (8, (.int .u64 (z.2.1))), (9, (.int .u64 (z.2.2.1))), (10, (.int .u64 (z.2.2.2.1))), (14, (.int .u64 (z.2.2.2.2.1))), (15, (.int .u64 (z.2.2.2.2.2.1))), (16, (.int .u64 (z.2.2.2.2.2.2.1))), (17, (.int .u64 (z.2.2.2.2.2.2.2.1))), (18, (.int .u64 (z.2.2.2.2.2.2.2.2.1))), (120, (.bool (z.2.2.2.2.2.2.2.2.2)))], []⟩) (fun z : Int × Int × Int × Int × Int × Int × Int × Int × Int × Bool => K (Ex.exit 2) ⟨[(2, (.int .u64 (z.1))), (8, (.int .u64 (z.2.1))), (9, (.int .u64 (z.2.2.1))), (10, (.int .u64 (z.2.2.2.1))), (14, (.int .u64 (z.2.2.2.2.1))), (15, (.int .u64 (z.2.2.2.2.2.1))), (16, (.int .u64 (z.2.2.2.2.2.2.1))), (17, (.int .u64 (z.2.2.2.2.2.2.2.1))), (18, (.int .u64 (z.2.2.2.2.2.2.2.2.1))), (113, (.bool (z.2.2.2.2.2.2.2.2.2)))], []⟩)))) rfl (S.div64_l1_v fu hi lo b K n (y0) (y1) (y2) (y3) (y4) (y5) (Go.IntKind.wrap .u64 (y6 + y2)) (y7) (Go.IntKind.wrap .u64 (y8 - 1)))) (bif_lift (f := (oK (β := (Int × Int × Int × Int × Int × Int × Int × Int × Int × Bool) ⊕ (Int × Int × Int × Int × Int × Int × Int × Int × Int × Bool)) (Sum.elim (fun z : Int × Int × Int × Int × Int × Int × Int × Int × Int × Bool => K (Ex.exit 2) ⟨[(2, (.int .u64 (z.1))), (8, (.int .u64 (z.2.1))), (9, (.int .u64 (z.2.2.1))), (10, (.int .u64 (z.2.2.2.1))), (14, (.int .u64 (z.2.2.2.2.1))), (15, (.int .u64 (z.2.2.2.2.2.1))), (16, (.int .u64 (z.2.2.2.2.2.2.1))), (17, (.int .u64 (z.2.2.2.2.2.2.2.1))), (18, (.int .u64 (z.2.2.2.2.2.2.2.2.1))), (120, (.bool (z.2.2.2.2.2.2.2.2.2)))], []⟩) (fun z : Int × Int × Int × Int × Int × Int × Int × Int × Int × Bool => K (Ex.exit 2) ⟨[(2, (.int .u64 (z.1))), (8, (.int .u64 (z.2.1))), (9, (.int .u64 (z.2.2.1))), (10, (.int .u64 (z.2.2.2.1))), (14, (.int .u64 (z.2.2.2.2.1))), (15, (.int .u64 (z.2.2.2.2.2.1))), (16, (.int .u64 (z.2.2.2.2.2.2.1))), (17, (.int .u64 (z.2.2.2.2.2.2.2.1))), (18, (.int .u64 (z.2.2.2.2.2.2.2.2.1))), (113, (.bool (z.2.2.2.2.2.2.2.2.2)))], []⟩)))) (bif_lift (f := (oK (β := (Int × Int × Int × Int × Int × Int × Int × Int × Int × Bool) ⊕ (Int × Int × Int × Int × Int × Int × Int × Int × Int × Bool)) (Sum.elim (fun z : Int × Int × Int × Int × Int × Int × Int × Int × Int × Bool => K (Ex.exit 2) ⟨[(2, (.int .u64 (z.1))), (8, (.int .u64 (z.2.1))), (9, (.int .u64 (z.2.2.1))), (10, (.int .u64 (z.2.2.2.1))), (14, (.int .u64 (z.2.2.2.2.1))), (15, (.int .u64 (z.2.2.2.2.2.1))), (16, (.int .u64 (z.2.2.2.2.2.2.1))), (17, (.int .u64 (z.2.2.2.2.2.2.2.1))), (18, (.int .u64 (z.2.2.2.2.2.2.2.2.1))), (120, (.bool (z.2.2.2.2.2.2.2.2.2)))], []⟩) (fun z : Int × Int × Int × Int × Int × Int × Int × Int × Int × Bool => K (Ex.exit 2) ⟨[(2, (.int .u64 (z.1))), (8, (.int .u64 (z.2.1))), (9, (.int .u64 (z.2.2.1))), (10, (.int .u64 (z.2.2.2.1))), (14, (.int .u64 (z.2.2.2.2.1))), (15, (.int .u64 (z.2.2.2.2.2.1))), (16, (.int .u64 (z.2.2.2.2.2.2.1))), (17, (.int .u64 (z.2.2.2.2.2.2.2.1))), (18, (.int .u64 (z.2.2.2.2.2.2.2.2.1))), (113, (.bool (z.2.2.2.2.2.2.2.2.2)))], []⟩)))) rfl (S.div64_l1_v fu hi lo b K n (y0) (y1) (y2) (y3) (y4) (y5) (Go.IntKind.wrap .u64 (y6 + y2)) (y7) (Go.IntKind.wrap .u64 (y8 - 1)))) rfl))
theorem S.div64_a1_1_k {R : Type} (fu : Nat) (hi lo b : Int) (z0 : Int) (z1 : Int) (z2 : Int) (z3 : Int) (z4 : Int) (z5 : Int) (z6 : Int) (z7 : Int) (z8 : Int) (z9 : Bool) (k : AVal → List Blk → Option R) : contOf (Cfg.of tis F44 fu (List.length ([] : List Blk)) Try.f44.ntmps) G52 (bodyOf Try.f44) [1, 1, 1, 1, 1, 1, 1, 1, 1, 1, 1, 1, 1, 1, 1, 1, 1, 1, 0, 0] (retK tis F44 Try.f44 (List.length ([] : List Blk)) k) (Ex.exit 2) ⟨[(2, (.int .u64 (z0))), (8, (.int .u64 (z1))), (9, (.int .u64 (z2))), (10, (.int .u64 (z3))), (14, (.int .u64 (z4))), (15, (.int .u64 (z5))), (16, (.int .u64 (z6))), (17, (.int .u64 (z7))), (18, (.int .u64 (z8))), (113, (.bool (z9)))], []⟩ =
  (bif decide (z1 < 0) then
    none
  else
    k (.tuple [.int .u64 (Go.IntKind.wrap .u64 (Go.IntKind.wrap .u64 (z5 * 4294967296) + z8)), .int .u64 (Int.fdiv (Go.IntKind.wrap .u64 (Go.IntKind.wrap .u64 (Go.IntKind.wrap .u64 (z7 * 4294967296) + z4) - Go.IntKind.wrap .u64 (z8 * z0))) (2 ^ Min.min (Int.toNat z1) 64))]) ([])) := by kernel_rfl
def S.div64_a1_1 (fu : Nat) (hi lo b : Int) (z0 : Int) (z1 : Int) (z2 : Int) (z3 : Int) (z4 : Int) (z5 : Int) (z6 : Int) (z7 : Int) (z8 : Int) (z9 : Bool) : Option (Int × Int) :=
  bif decide (z1 < 0) then
    none
  else
    some (Go.IntKind.wrap .u64 (Go.IntKind.wrap .u64 (z5 * 4294967296) + z8), Int.fdiv (Go.IntKind.wrap .u64 (Go.IntKind.wrap .u64 (Go.IntKind.wrap .u64 (z7 * 4294967296) + z4) - Go.IntKind.wrap .u64 (z8 * z0))) (2 ^ Min.min (Int.toNat z1) 64))
theorem S.div64_a1_1_v {R : Type} (fu : Nat) (hi lo b : Int) (z0 : Int) (z1 : Int) (z2 : Int) (z3 : Int) (z4 : Int) (z5 : Int) (z6 : Int) (z7 : Int) (z8 : Int) (z9 : Bool) (k : AVal → List Blk → Option R) : contOf (Cfg.of tis F44 fu (List.length ([] : List Blk)) Try.f44.ntmps) G52 (bodyOf Try.f44) [1, 1, 1, 1, 1, 1, 1, 1, 1, 1, 1, 1, 1, 1, 1, 1, 1, 1, 0, 0] (retK tis F44 Try.f44 (List.length ([] : List Blk)) k) (Ex.exit 2) ⟨[(2, (.int .u64 (z0))), (8, (.int .u64 (z1))), (9, (.int .u64 (z2))), (10, (.int .u64 (z3))), (14, (.int .u64 (z4))), (15, (.int .u64 (z5))), (16, (.int .u64 (z6))), (17, (.int .u64 (z7))), (18, (.int .u64 (z8))), (113, (.bool (z9)))], []⟩ = oK (fun v : Int × Int => k (.tuple [(.int .u64 v.1), (.int .u64 v.2)]) []) (S.div64_a1_1 fu hi lo b z0 z1 z2 z3 z4 z5 z6 z7 z8 z9) :=
  (S.div64_a1_1_k fu hi lo b z0 z1 z2 z3 z4 z5 z6 z7 z8 z9 k).trans (bif_lift (f := (oK (fun v : Int × Int => k (.tuple [(.int .u64 v.1), (.int .u64 v.2)]) []))) rfl rfl)
theorem S.div64_a1_0_k {R : Type} (fu : Nat) (hi lo b : Int) (z0 : Int) (z1 : Int) (z2 : Int) (z3 : Int) (z4 : Int) (z5 : Int) (z6 : Int) (z7 : Int) (z8 : Int) (z9 : Bool) (k : AVal → List Blk → Option R) : contOf (Cfg.of tis F44 fu (List.length ([] : List Blk)) Try.f44.ntmps) G52 (bodyOf Try.f44) [1, 1, 1, 1, 1, 1, 1, 1, 1, 1, 1, 1, 1, 1, 1, 1, 1, 1, 0, 0] (retK tis F44 Try.f44 (List.length ([] : List Blk)) k) (Ex.exit 2) ⟨[(2, (.int .u64 (z0))), (8, (.int .u64 (z1))), (9, (.int .u64 (z2))), (10, (.int .u64 (z3))), (14, (.int .u64 (z4))), (15, (.int .u64 (z5))), (16, (.int .u64 (z6))), (17, (.int .u64 (z7))), (18, (.int .u64 (z8))), (120, (.bool (z9)))], []⟩ =
  (bif decide (z1 < 0) then
    none
  else
    k (.tuple [.int .u64 (Go.IntKind.wrap .u64 (Go.IntKind.wrap .u64 (z5 * 4294967296) + z8)), .int .u64 (Int.fdiv (Go.IntKind.wrap .u64 (Go.IntKind.wrap .u64 (Go.IntKind.wrap .u64 (z7 * 4294967296) + z4) - Go.IntKind.wrap .u64 (z8 * z0))) (2 ^ Min.min (Int.toNat z1) 64))]) ([])) := by kernel_rfl
def S.div64_a1_0 (fu : Nat) (hi lo b : Int) (z0 : Int) (z1 : Int) (z2 : Int) (z3 : Int) (z4 : Int) (z5 : Int) (z6 : Int) (z7 : Int) (z8 : Int) (z9 : Bool) : Option (Int × Int) :=
  bif decide (z1 < 0) then
    none
  else
    some (Go.IntKind.wrap .u64 (Go.IntKind.wrap .u64 (z5 * 4294967296) + z8), Int.fdiv (Go.IntKind.wrap .u64 (Go.IntKind.wrap .u64 (Go.IntKind.wrap .u64 (z7 * 4294967296) + z4) - Go.IntKind.wrap .u64 (z8 * z0))) (2 ^ Min.min (Int.toNat z1) 64))
theorem S.div64_a1_0_v {R : Type} (fu : Nat) (hi lo b : Int) (z0 : Int) (z1 : Int) (z2 : Int) (z3 : Int) (z4 : Int) (z5 : Int) (z6 : Int) (z7 : Int) (z8 : Int) (z9 : Bool) (k : AVal → List Blk → Option R) : contOf (Cfg.of tis F44 fu (List.length ([] : List Blk)) Try.f44.ntmps) G52 (bodyOf Try.f44) [1, 1, 1, 1, 1, 1, 1, 1, 1, 1, 1, 1, 1, 1, 1, 1, 1, 1, 0, 0] (retK tis F44 Try.f44 (List.length ([] : List Blk)) k) (Ex.exit 2) ⟨[(2, (.int .u64 (z0))), (8, (.int .u64 (z1))), (9, (.int .u64 (z2))), (10, (.int .u64 (z3))), (14, (.int .u64 (z4))), (15, (.int .u64 (z5))), (16, (.int .u64 (z6))), (17, (.int .u64 (z7))), (18, (.int .u64 (z8))), (120, (.bool (z9)))], []⟩ = oK (fun v : Int × Int => k (.tuple [(.int .u64 v.1), (.int .u64 v.2)]) []) (S.div64_a1_0 fu hi lo b z0 z1 z2 z3 z4 z5 z6 z7 z8 z9) :=
  (S.div64_a1_0_k fu hi lo b z0 z1 z2 z3 z4 z5 z6 z7 z8 z9 k).trans (bif_lift (f := (oK (fun v : Int × Int => k (.tuple [(.int .u64 v.1), (.int .u64 v.2)]) []))) rfl rfl)
theorem S.div64_l0_k {R : Type} (fu : Nat) (hi lo b : Int) (n : Nat) (K : Ex → St → Option R) (y0 : Int) (y1 : Int) (y2 : Int) (y3 : Int) (y4 : Int) (y5 : Int) (y6 : Int) (y7 : Int) (y8 : Int) : loopRun (Cfg.of tis F44 fu (List.length ([] : List Blk)) Try.f44.ntmps) G52 S.div64_b0 (n + 1) ⟨[(2, (.int .u64 (y0))), (8, (.int .u64 (y1))), (9, (.int .u64 (y2))), (10, (.int .u64 (y3))), (11, (.int .u64 (y4))), (13, (.int .u64 (y5))), (14, (.int .u64 (y6))), (15, (.int .u64 (y7))), (16, (.int .u64 (y8)))], []⟩ K =
  (bif decide (4294967296 ≤ y7) then
    bif decide (4294967296 ≤ Go.IntKind.wrap .u64 (y8 + y2)) then
      K (Ex.exit 0) ⟨[(2, (.int .u64 (y0))), (8, (.int .u64 (y1))), (9, (.int .u64 (y2))), (10, (.int .u64 (y3))), (11, (.int .u64 (y4))), (13, (.int .u64 (y5))), (14, (.int .u64 (y6))), (15, (.int .u64 (Go.IntKind.wrap .u64 (y7 - 1)))), (16, (.int .u64 (Go.IntKind.wrap .u64 (y8 + y2)))), (85, (.bool (decide (4294967296 ≤ Go.IntKind.wrap .u64 (y8 + y2)))))], []⟩
    else
      loopRun (Cfg.of tis F44 fu (List.length ([] : List Blk)) Try.f44.ntmps) G52 S.div64_b0 n ⟨[(2, (.int .u64 (y0))), (8, (.int .u64 (y1))), (9, (.int .u64 (y2))), (10, (.int .u64 (y3))), (11, (.int .u64 (y4))), (13, (.int .u64 (y5))), (14, (.int .u64 (y6))), (15, (.int .u64 (Go.IntKind.wrap .u64 (y7 - 1)))), (16, (.int .u64 (Go.IntKind.wrap .u64 (y8 + y2))))], []⟩ K
  else
    bif decide (Go.IntKind.wrap .u64 (Go.IntKind.wrap .u64 (4294967296 * y8) + y5) < Go.IntKind.wrap .u64 (y7 * y3)) then
      bif decide (4294967296 ≤ Go.IntKind.wrap .u64 (y8 + y2)) then
        K (Ex.exit 0) ⟨[(2, (.int .u64 (y0))), (8, (.int .u64 (y1))), (9, (.int .u64 (y2))), (10, (.int .u64 (y3))), (11, (.int .u64 (y4))), (13, (.int .u64 (y5))), (14, (.int .u64 (y6))), (15, (.int .u64 (Go.IntKind.wrap .u64 (y7 - 1)))), (16, (.int .u64 (Go.IntKind.wrap .u64 (y8 + y2)))), (85, (.bool (decide (4294967296 ≤ Go.IntKind.wrap .u64 (y8 + y2)))))], []⟩
      else
        loopRun (Cfg.of tis F44 fu (List.length ([] : List Blk)) Try.f44.ntmps) G52 S.div64_b0 n ⟨[(2, (.int .u64 (y0))), (8, (.int .u64 (y1))), (9, (.int .u64 (y2))), (10, (.int .u64 (y3))), (11, (.int .u64 (y4))), (13, (.int .u64 (y5))), (14, (.int .u64 (y6))), (15, (.int .u64 (Go.IntKind.wrap .u64 (y7 - 1)))), (16, (.int .u64 (Go.IntKind.wrap .u64 (y8 + y2))))], []⟩ K
    else
      K (Ex.exit 0) ⟨[(2, (.int .u64 (y0))), (8, (.int .u64 (y1))), (9, (.int .u64 (y2))), (10, (.int .u64 (y3))), (11, (.int .u64 (y4))), (13, (.int .u64 (y5))), (14, (.int .u64 (y6))), (15, (.int .u64 (y7))), (16, (.int .u64 (y8))), (78, (.bool (decide (Go.IntKind.wrap .u64 (Go.IntKind.wrap .u64 (4294967296 * y8) + y5) < Go.IntKind.wrap .u64 (y7 * y3)))))], []⟩) := by kernel_rfl
def S.div64_l0 (fu : Nat) (hi lo b : Int) : Nat → (Int) → (Int) → (Int) → (Int) → (Int) → (Int) → (Int) → (Int) → (Int) → Option ((Int × Int × Int × Int × Int × Int × Int × Int × Int × Bool) ⊕ (Int × Int × Int × Int × Int × Int × Int × Int × Int × Bool))
  | 0, _, _, _, _, _, _, _, _, _ => none
  | n + 1, y0, y1, y2, y3, y4, y5, y6, y7, y8 =>
    bif decide (4294967296 ≤ y7) then
      bif decide (4294967296 ≤ Go.IntKind.wrap .u64 (y8 + y2)) then
        some (.inl (y0, y1, y2, y3, y4, y5, y6, Go.IntKind.wrap .u64 (y7 - 1), Go.IntKind.wrap .u64 (y8 + y2), decide (4294967296 ≤ Go.IntKind.wrap .u64 (y8 + y2))))
      else
        (S.div64_l0 fu hi lo b n) (y0) (y1) (y2) (y3) (y4) (y5) (y6) (Go.IntKind.wrap .u64 (y7 - 1)) (Go.IntKind.wrap .u64 (y8 + y2))
    else
      bif decide (Go.IntKind.wrap .u64 (Go.IntKind.wrap .u64 (4294967296 * y8) + y5) < Go.IntKind.wrap .u64 (y7 * y3)) then
        bif decide (4294967296 ≤ Go.IntKind.wrap .u64 (y8 + y2)) then
          some (.inl (y0, y1, y2, y3, y4, y5, y6, Go.IntKind.wrap .u64 (y7 - 1), Go.IntKind.wrap .u64 (y8 + y2), decide (4294967296 ≤ Go.IntKind.wrap .u64 (y8 + y2))))
        else
          (S.div64_l0 fu hi lo b n) (y0) (y1) (y2) (y3) (y4) (y5) (y6) (Go.IntKind.wrap .u64 (y7 - 1)) (Go.IntKind.wrap .u64 (y8 + y2))
      else
        some (.inr (y0, y1, y2, y3, y4, y5, y6, y7, y8, decide (Go.IntKind.wrap .u64 (Go.IntKind.wrap .u64 (4294967296 * y8) + y5) < Go.IntKind.wrap .u64 (y7 * y3))))
theorem S.div64_l0_v {R : Type} (fu : Nat) (hi lo b : Int) (K : Ex → St → Option R) : ∀ (n : Nat) (y0 : Int) (y1 : Int) (y2 : Int) (y3 : Int) (y4 : Int) (y5 : Int) (y6 : Int) (y7 : Int) (y8 : Int), loopRun (Cfg.of tis F44 fu (List.length ([] : List Blk)) Try.f44.ntmps) G52 S.div64_b0 n ⟨[(2, (.int .u64 (y0))), (8, (.int .u64 (y1))), (9, (.int .u64 (y2))), (10, (.int .u64 (y3))), (11, (.int .u64 (y4))), (13, (.int .u64 (y5))), (14, (.int .u64 (y6))), (15, (.int .u64 (y7))), (16, (.int .u64 (y8)))], []⟩ K = oK (β := (Int × Int × Int × Int × Int × Int × Int × Int × Int × Bool) ⊕ (Int × Int × Int × Int × Int × Int × Int × Int × Int × Bool)) (Sum.elim (fun z : Int × Int × Int × Int × Int × Int × Int × Int × Int × Bool => K (Ex.exit 0) ⟨[(2, (.int .u64 (z.1))), (8, (.int .u64 (z.2.1))), (9, (.int .u64 (z.2.2.1))), (10, (.int .u64 (z.2.2.2.1))), (11, (.int .u64 (z.2.2.2.2.1))), (13, (.int .u64 (z.2.2.2.2.2.1))), (14, (.int .u64 (z.2.2.2.2.2.2.1))), (15, (.int .u64 (z.2.2.2.2.2.2.2.1))), (16, (.int .u64 (z.2.2.2.2.2.2.2.2.1))), (85, (.bool (z.2.2.2.2.2.2.2.2.2)))], []⟩) (fun z : Int × Int × Int × Int × Int × Int × Int × Int × Int × Bool => K (Ex.exit 0) ⟨[(2, (.int .u64 (z.1))), (8, (.int .u64 (z.2.1))), (9, (.int .u64 (z.2.2.1))), (10, (.int .u64 (z.2.2.2.1))), (11, (.int .u64 (z.2.2.2.2.1))), (13, (.int .u64 (z.2.2.2.2.2.1))), (14, (.int .u64 (z.2.2.2.2.2.2.1))), (15, (.int .u64 (z.2.2.2.2.2.2.2.1))), (16, (.int .u64 (z.2.2.2.2.2.2.2.2.1))), (78, (.bool (z.2.2.2.2.2.2.2.2.2)))], []⟩)) (S.div64_l0 fu hi lo b n y0 y1 y2 y3 y4 y5 y6 y7 y8)
  | 0, _, _, _, _, _, _, _, _, _ => rfl
  | n + 1, y0, y1, y2, y3, y4, y5, y6, y7, y8 => (S.div64_l0_k fu hi lo b n K y0 y1 y2 y3 y4 y5 y6 y7 y8).trans (bif_lift (f := (oK (β := (Int × Int × Int × Int × Int × Int × Int × Int × Int × Bool) ⊕ (Int × Int × Int × Int × Int × Int × Int × Int × Int × Bool)) (Sum.elim (fun z : Int × Int × Int × Int × Int × Int × Int × Int × Int × Bool => K (Ex.exit 0) ⟨[(2, (.int .u64 (z.1))), (8, (.int .u64 (z.2.1))), (9, (.int .u64 (z.2.2.1))), (10, (.int .u64 (z.2.2.2.1))), (11, (.int .u64 (z.2.2.2.2.1))), (13, (.int .u64 (z.2.2.2.2.2.1))), (14, (.int .u64 (z.2.2.2.2.2.2.1))), (15, (.int .u64 (z.2.2.2.2.2.2.2.1))), (16, (.int .u64 (z.2.2.2.2.2.2.2.2.1))), (85, (.bool (z.2.2.2.2.2.2.2.2.2)))], []⟩) (fun z : Int × Int × Int × Int × Int × Int × Int × Int × Int × Bool => K (Ex.exit 0) ⟨[(2, (.int .u64 (z.1))), (8, (.int .u64 (z.2.1))), (9, (.int .u64 (z.2.2.1))), (10, (.int .u64 (z.2.2.2.1))), (11, (.int .u64 (z.2.2.2.2.1))), (13, (.int .u64 (z.2.2.2.2.2.1))), (14, (.int .u64 (z.2.2.2.2.2.2.1))), (15, (.int .u64 (z.2.2.2.2.2.2.2.1))), (16, (.int .u64 (z.2.2.2.2.2.2.2.2.1))), (78, (.bool (z.2.2.2.2.2.2.2.2.2)))], []⟩)))) (bif_lift (f := (oK (β := (Int × Int × Int × Int × Int × Int × Int × Int × Int × Bool) ⊕ (Int × Int × Int × Int × Int × Int × Int × Int × Int × Bool)) (Sum.elim (fun z : Int × Int × Int × Int × Int × Int × Int × Int × Int × Bool => K (Ex.exit 0) ⟨[(2, (.int .u64 (z.1))), (8, (.int .u64 (z.2.1))), (9, (.int .u64 (z.2.2.1))), (10, (.int .u64 (z.2.2.2.1))), (11, (.int .u64 (z.2.2.2.2.1))), (13, (.int .u64 (z.2.2.2.2.2.1))), (14, (.int .u64 (z.2.2.2.2.2.2.1))), (15, (.int .u64 (z.2.2.2.2.2.2.2.1))), (16, (.int .u64 (z.2.2.2.2.2.2.2.2.1))), (85, (.bool (z.2.2.2.2.2.2.2.2.2)))], []⟩) (fun z : Int × Int × Int × Int × Int × Int × Int × Int × Int × Bool => K (Ex.exit 0) ⟨[(2, (.int .u64 (z.1))), (8, (.int .u64 (z.2.1))), (9, (.int .u64 (z.2.2.1))), (10, (.int .u64 (z.2.2.2.1))), (11, (.int .u64 (z.2.2.2.2.1))), (13, (.int .u64 (z.2.2.2.2.2.1))), (14, (.int .u64 (z.2.2.2.2.2.2.1))), (15, (.int .u64 (z.2.2.2.2.2.2.2.1))), (16, (.int .u64 (z.2.2.2.2.2.2.2.2.1))), (78, (.bool (z.2.2.2.2.2.2.2.2.2)))], []⟩)))) rfl (S.div64_l0_v fu hi lo b K n (y0) (y1) (y2) (y3) (y4) (y5) (y6) (Go.IntKind.wrap .u64 (y7 - 1)) (Go.IntKind.wrap .u64 (y8 + y2)))) (bif_lift (f := (oK (β := (Int × Int × Int × Int × Int × Int × Int × Int × Int × Bool) ⊕ (Int × Int × Int × Int × Int × Int × Int × Int × Int × Bool)) (Sum.elim (fun z : Int × Int × Int × Int × Int × Int × Int × Int × Int × Bool => K (Ex.exit 0) ⟨[(2, (.int .u64 (z.1))), (8, (.int .u64 (z.2.1))), (9, (.int .u64 (z.2.2.1))), (10, (.int .u64 (z.2.2.2.1))), (11, (.int .u64 (z.2.2.2.2.1))), (13, (.int .u64 (z.2.2.2.2.2.1))), (14, (.int .u64 (z.2.2.2.2.2.2.1))), (15, (.int .u64 (z.2.2.2.2.2.2.2.1))), (16, (.int .u64 (z.2.2.2.2.2.2.2.2.1))), (85, (.bool (z.2.2.2.2.2.2.2.2.2)))], []⟩) (fun z : Int × Int × Int × Int × Int × Int × Int × Int × Int × Bool => K (Ex.exit 0) ⟨[(2, (.int .u64 (z.1))), (8, (.int .u64 (z.2.1))), (9, (.int .u64 (z.2.2.1))), (10, (.int .u64 (z.2.2.2.1))), (11, (.int .u64 (z.2.2.2.2.1))), (13, (.int .u64 (z.2.2.2.2.2.1))), (14, (.int .u64 (z.2.2.2.2.2.2.1))), (15, (.int .u64 (z.2.2.2.2.2.2.2.1))), (16, (.int .u64 (z.2.2.2.2.2.2.2.2.1))), (78, (.bool (z.2.2.2.2.2.2.2.2.2)))], []⟩)))) (bif_lift (f := (oK (β := (Int × Int × Int × Int × Int × Int × Int × Int × Int × Bool) ⊕ (Int × Int × Int × Int × Int × Int × Int × Int × Int × Bool)) (Sum.elim (fun z : Int × Int × Int × Int × Int × Int × Int × Int × Int × Bool => K (Ex.exit 0) ⟨[(2, (.int .u64 (z.1))), (8, (.int .u64 (z.2.1))), (9, (.int .u64 (z.2.2.1))), (10, (.int .u64 (z.2.2.2.1))), (11, (.int .u64 (z.2.2.2.2.1))), (13, (.int .u64 (z.2.2.2.2.2.1))), (14, (.int .u64 (z.2.2.2.2.2.2.1))), (15, (.int .u64 (z.2.2.2.2.2.2.2.1))), (16, (.int .u64 (z.2.2.2.2.2.2.2.2.1))), (85, (.bool (z.2.2.2.2.2.2.2.2.2)))], []⟩) (fun z : Int × Int × Int × Int × Int × Int × Int × Int × Int × Bool => K (Ex.exit 0) ⟨[(2, (.int .u64 (z.1))), (8, (.int .u64 (z.2.1))), (9, (.int .u64 (z.2.2.1))), (10, (.int .u64 (z.2.2.2.1))), (11, (.int .u64 (z.2.2.2.2.1))), (13, (.int .u64 (z.2.2.2.2.2.1))), (14, (.int .u64 (z.2.2.2.2.2.2.1))), (15, (.int .u64 (z.2.2.2.2.2.2.2.1))), (16, (.int .u64 (z.2.2.2.2.2.2.2.2.1))), (78, (.bool (z.2.2.2.2.2.2.2.2.2)))], []⟩)))) rfl (S.div64_l0_v fu hi lo b K n (y0) (y1) (y2) (y3) (y4) (y5) (y6) (Go.IntKind.wrap .u64 (y7 - 1)) (Go.IntKind.wrap .u64 (y8 + y2)))) rfl))
theorem S.div64_a0_1_k {R : Type} (fu : Nat) (hi lo b : Int) (z0 : Int) (z1 : Int) (z2 : Int) (z3 : Int) (z4 : Int) (z5 : Int) (z6 : Int) (z7 : Int) (z8 : Int) (z9 : Bool) (k : AVal → List Blk → Option R) : contOf (Cfg.of tis F44 fu (List.length ([] : List Blk)) Try.f44.ntmps) G52 (bodyOf Try.f44) [1, 1, 1, 1, 1, 1, 1, 1, 1, 1, 1, 1, 1, 1, 0, 0] (retK tis F44 Try.f44 (List.length ([] : List Blk)) k) (Ex.exit 0) ⟨[(2, (.int .u64 (z0))), (8, (.int .u64 (z1))), (9, (.int .u64 (z2))), (10, (.int .u64 (z3))), (11, (.int .u64 (z4))), (13, (.int .u64 (z5))), (14, (.int .u64 (z6))), (15, (.int .u64 (z7))), (16, (.int .u64 (z8))), (78, (.bool (z9)))], []⟩ =
  (bif decide (z2 = 0) then
    none
  else
    loopRun (Cfg.of tis F44 fu (List.length ([] : List Blk)) Try.f44.ntmps) G52 S.div64_b1 fu ⟨[(2, (.int .u64 (z0))), (8, (.int .u64 (z1))), (9, (.int .u64 (z2))), (10, (.int .u64 (z3))), (14, (.int .u64 (z6))), (15, (.int .u64 (z7))), (16, (.int .u64 (Go.IntKind.wrap .u64 (Go.IntKind.wrap .u64 (Go.IntKind.wrap .u64 (Go.IntKind.wrap .u64 (z4 * 4294967296) + z5) - Go.IntKind.wrap .u64 (z7 * z0)) - Go.IntKind.wrap .u64 (Go.IntKind.wrap .u64 (Int.tdiv (Go.IntKind.wrap .u64 (Go.IntKind.wrap .u64 (Go.IntKind.wrap .u64 (z4 * 4294967296) + z5) - Go.IntKind.wrap .u64 (z7 * z0))) z2) * z2))))), (17, (.int .u64 (Go.IntKind.wrap .u64 (Go.IntKind.wrap .u64 (Go.IntKind.wrap .u64 (z4 * 4294967296) + z5) - Go.IntKind.wrap .u64 (z7 * z0))))), (18, (.int .u64 (Go.IntKind.wrap .u64 (Int.tdiv (Go.IntKind.wrap .u64 (Go.IntKind.wrap .u64 (Go.IntKind.wrap .u64 (z4 * 4294967296) + z5) - Go.IntKind.wrap .u64 (z7 * z0))) z2))))], []⟩ (contOf (Cfg.of tis F44 fu (List.length ([] : List Blk)) Try.f44.ntmps) G52 (bodyOf Try.f44) [1, 1, 1, 1, 1, 1, 1, 1, 1, 1, 1, 1, 1, 1, 1, 1, 1, 1, 0, 0] (retK tis F44 Try.f44 (List.length ([] : List Blk)) k))) := by kernel_rfl
def S.div64_a0_1 (fu : Nat) (hi lo b : Int) (z0 : Int) (z1 : Int) (z2 : Int) (z3 : Int) (z4 : Int) (z5 : Int) (z6 : Int) (z7 : Int) (z8 : Int) (z9 : Bool) : Option (Int × Int) :=
  bif decide (z2 = 0) then
    none
  else
    optK (S.div64_l1 fu hi lo b fu (z0) (z1) (z2) (z3) (z6) (z7) (Go.IntKind.wrap .u64 (Go.IntKind.wrap .u64 (Go.IntKind.wrap .u64 (Go.IntKind.wrap .u64 (z4 * 4294967296) + z5) - Go.IntKind.wrap .u64 (z7 * z0)) - Go.IntKind.wrap .u64 (Go.IntKind.wrap .u64 (Int.tdiv (Go.IntKind.wrap .u64 (Go.IntKind.wrap .u64 (Go.IntKind.wrap .u64 (z4 * 4294967296) + z5) - Go.IntKind.wrap .u64 (z7 * z0))) z2) * z2))) (Go.IntKind.wrap .u64 (Go.IntKind.wrap .u64 (Go.IntKind.wrap .u64 (z4 * 4294967296) + z5) - Go.IntKind.wrap .u64 (z7 * z0))) (Go.IntKind.wrap .u64 (Int.tdiv (Go.IntKind.wrap .u64 (Go.IntKind.wrap .u64 (Go.IntKind.wrap .u64 (z4 * 4294967296) + z5) - Go.IntKind.wrap .u64 (z7 * z0))) z2))) (Sum.elim (fun z : Int × Int × Int × Int × Int × Int × Int × Int × Int × Bool => S.div64_a1_0 fu hi lo b (z.1) (z.2.1) (z.2.2.1) (z.2.2.2.1) (z.2.2.2.2.1) (z.2.2.2.2.2.1) (z.2.2.2.2.2.2.1) (z.2.2.2.2.2.2.2.1) (z.2.2.2.2.2.2.2.2.1) (z.2.2.2.2.2.2.2.2.2)) (fun z : Int × Int × Int × Int × Int × Int × Int × Int × Int × Bool => S.div64_a1_1 fu hi lo b (z.1) (z.2.1) (z.2.2.1) (z.2.2.2.1) (z.2.2.2.2.1) (z.2.2.2.2.2.1) (z.2.2.2.2.2.2.1) (z.2.2.2.2.2.2.2.1) (z.2.2.2.2.2.2.2.2.1) (z.2.2.2.2.2.2.2.2.2)))
theorem S.div64_a0_1_v {R : Type} (fu : Nat) (hi lo b : Int) (z0 : Int) (z1 : Int) (z2 : Int) (z3 : Int) (z4 : Int) (z5 : Int) (z6 : Int) (z7 : Int) (z8 : Int) (z9 : Bool) (k : AVal → List Blk → Option R) : contOf (Cfg.of tis F44 fu (List.length ([] : List Blk)) Try.f44.ntmps) G52 (bodyOf Try.f44) [1, 1, 1, 1, 1, 1, 1, 1, 1, 1, 1, 1, 1, 1, 0, 0] (retK tis F44 Try.f44 (List.length ([] : List Blk)) k) (Ex.exit 0) ⟨[(2, (.int .u64 (z0))), (8, (.int .u64 (z1))), (9, (.int .u64 (z2))), (10, (.int .u64 (z3))), (11, (.int .u64 (z4))), (13, (.int .u64 (z5))), (14, (.int .u64 (z6))), (15, (.int .u64 (z7))), (16, (.int .u64 (z8))), (78, (.bool (z9)))], []⟩ = oK (fun v : Int × Int => k (.tuple [(.int .u64 v.1), (.int .u64 v.2)]) []) (S.div64_a0_1 fu hi lo b z0 z1 z2 z3 z4 z5 z6 z7 z8 z9) :=
  (S.div64_a0_1_k fu hi lo b z0 z1 z2 z3 z4 z5 z6 z7 z8 z9 k).trans (bif_lift (f := (oK (fun v : Int × Int => k (.tuple [(.int .u64 v.1), (.int .u64 v.2)]) []))) rfl (arr_lift (S.div64_l1_v fu hi lo b (contOf (Cfg.of tis F44 fu (List.length ([] : List Blk)) Try.f44.ntmps) G52 (bodyOf Try.f44) [1, 1, 1, 1, 1, 1, 1, 1, 1, 1, 1, 1, 1, 1, 1, 1, 1, 1, 0, 0] (retK tis F44 Try.f44 (List.length ([] : List Blk)) k)) fu (z0) (z1) (z2) (z3) (z6) (z7) (Go.IntKind.wrap .u64 (Go.IntKind.wrap .u64 (Go.IntKind.wrap .u64 (Go.IntKind.wrap .u64 (z4 * 4294967296) + z5) - Go.IntKind.wrap .u64 (z7 * z0)) - Go.IntKind.wrap .u64 (Go.IntKind.wrap .u64 (Int.tdiv (Go.IntKind.wrap .u64 (Go.IntKind.wrap .u64 (Go.IntKind.wrap .u64 (z4 * 4294967296) + z5) - Go.IntKind.wrap .u64 (z7 * z0))) z2) * z2))) (Go.IntKind.wrap .u64 (Go.IntKind.wrap .u64 (Go.IntKind.wrap .u64 (z4 * 4294967296) + z5) - Go.IntKind.wrap .u64 (z7 * z0))) (Go.IntKind.wrap .u64 (Int.tdiv (Go.IntKind.wrap .u64 (Go.IntKind.wrap .u64 (Go.IntKind.wrap .u64 (z4 * 4294967296) + z5) - Go.IntKind.wrap .u64 (z7 * z0))) z2))) ((sum_lift (fun z => S.div64_a1_0_v fu hi lo b (z.1) (z.2.1) (z.2.2.1) (z.2.2.2.1) (z.2.2.2.2.1) (z.2.2.2.2.2.1) (z.2.2.2.2.2.2.1) (z.2.2.2.2.2.2.2.1) (z.2.2.2.2.2.2.2.2.1) (z.2.2.2.2.2.2.2.2.2) k) (fun z => S.div64_a1_1_v fu hi lo b (z.1) (z.2.1) (z.2.2.1) (z.2.2.2.1) (z.2.2.2.2.1) (z.2.2.2.2.2.1) (z.2.2.2.2.2.2.1) (z.2.2.2.2.2.2.2.1) (z.2.2.2.2.2.2.2.2.1) (z.2.2.2.2.2.2.2.2.2) k)))))
theorem S.div64_a0_0_k {R : Type} (fu : Nat) (hi lo b : Int) (z0 : Int) (z1 : Int) (z2 : Int) (z3 : Int) (z4 : Int) (z5 : Int) (z6 : Int) (z7 : Int) (z8 : Int) (z9 : Bool) (k : AVal → List Blk → Option R) : contOf (Cfg.of tis F44 fu (List.length ([] : List Blk)) Try.f44.ntmps) G52 (bodyOf Try.f44) [1, 1, 1, 1, 1, 1, 1, 1, 1, 1, 1, 1, 1, 1, 0, 0] (retK tis F44 Try.f44 (List.length ([] : List Blk)) k) (Ex.exit 0) ⟨[(2, (.int .u64 (z0))), (8, (.int .u64 (z1))), (9, (.int .u64 (z2))), (10, (.int .u64 (z3))), (11, (.int .u64 (z4))), (13, (.int .u64 (z5))), (14, (.int .u64 (z6))), (15, (.int .u64 (z7))), (16, (.int .u64 (z8))), (85, (.bool (z9)))], []⟩ =
  (bif decide (z2 = 0) then
    none
  else
    loopRun (Cfg.of tis F44 fu (List.length ([] : List Blk)) Try.f44.ntmps) G52 S.div64_b1 fu ⟨[(2, (.int .u64 (z0))), (8, (.int .u64 (z1))), (9, (.int .u64 (z2))), (10, (.int .u64 (z3))), (14, (.int .u64 (z6))), (15, (.int .u64 (z7))), (16, (.int .u64 (Go.IntKind.wrap .u64 (Go.IntKind.wrap .u64 (Go.IntKind.wrap .u64 (Go.IntKind.wrap .u64 (z4 * 4294967296) + z5) - Go.IntKind.wrap .u64 (z7 * z0)) - Go.IntKind.wrap .u64 (Go.IntKind.wrap .u64 (Int.tdiv (Go.IntKind.wrap .u64 (Go.IntKind.wrap .u64 (Go.IntKind.wrap .u64 (z4 * 4294967296) + z5) - Go.IntKind.wrap .u64 (z7 * z0))) z2) * z2))))), (17, (.int .u64 (Go.IntKind.wrap .u64 (Go.IntKind.wrap .u64 (Go.IntKind.wrap .u64 (z4 * 4294967296) + z5) - Go.IntKind.wrap .u64 (z7 * z0))))), (18, (.int .u64 (Go.IntKind.wrap .u64 (Int.tdiv (Go.IntKind.wrap .u64 (Go.IntKind.wrap .u64 (Go.IntKind.wrap .u64 (z4 * 4294967296) + z5) - Go.IntKind.wrap .u64 (z7 * z0))) z2))))], []⟩ (contOf (Cfg.of tis F44 fu (List.length ([] : List Blk)) Try.f44.ntmps) G52 (bodyOf Try.f44) [1, 1, 1, 1, 1, 1, 1, 1, 1, 1, 1, 1, 1, 1, 1, 1, 1, 1, 0, 0] (retK tis F44 Try.f44 (List.length ([] : List Blk)) k))) := by kernel_rfl
def S.div64_a0_0 (fu : Nat) (hi lo b : Int) (z0 : Int) (z1 : Int) (z2 : Int) (z3 : Int) (z4 : Int) (z5 : Int) (z6 : Int) (z7 : Int) (z8 : Int) (z9 : Bool) : Option (Int × Int) :=
  bif decide (z2 = 0) then
    none
  else
    optK (S.div64_l1 fu hi lo b fu (z0) (z1) (z2) (z3) (z6) (z7) (Go.IntKind.wrap .u64 (Go.IntKind.wrap .u64 (Go.IntKind.wrap .u64 (Go.IntKind.wrap .u64 (z4 * 4294967296) + z5) - Go.IntKind.wrap .u64 (z7 * z0)) - Go.IntKind.wrap .u64 (Go.IntKind.wrap .u64 (Int.tdiv (Go.IntKind.wrap .u64 (Go.IntKind.wrap .u64 (Go.IntKind.wrap .u64 (z4 * 4294967296) + z5) - Go.IntKind.wrap .u64 (z7 * z0))) z2) * z2))) (Go.IntKind.wrap .u64 (Go.IntKind.wrap .u64 (Go.IntKind.wrap .u64 (z4 * 4294967296) + z5) - Go.IntKind.wrap .u64 (z7 * z0))) (Go.IntKind.wrap .u64 (Int.tdiv (Go.IntKind.wrap .u64 (Go.IntKind.wrap .u64 (Go.IntKind.wrap .u64 (z4 * 4294967296) + z5) - Go.IntKind.wrap .u64 (z7 * z0))) z2))) (Sum.elim (fun z : Int × Int × Int × Int × Int × Int × Int × Int × Int × Bool => S.div64_a1_0 fu hi lo b (z.1) (z.2.1) (z.2.2.1) (z.2.2.2.1) (z.2.2.2.2.1) (z.2.2.2.2.2.1) (z.2.2.2.2.2.2.1) (z.2.2.2.2.2.2.2.1) (z.2.2.2.2.2.2.2.2.1) (z.2.2.2.2.2.2.2.2.2)) (fun z : Int × Int × Int × Int × Int × Int × Int × Int × Int × Bool => S.div64_a1_1 fu hi lo b (z.1) (z.2.1) (z.2.2.1) (z.2.2.2.1) (z.2.2.2.2.1) (z.2.2.2.2.2.1) (z.2.2.2.2.2.2.1) (z.2.2.2.2.2.2.2.1) (z.2.2.2.2.2.2.2.2.1) (z.2.2.2.2.2.2.2.2.2)))
theorem S.div64_a0_0_v {R : Type} (fu : Nat) (hi lo b : Int) (z0 : Int) (z1 : Int) (z2 : Int) (z3 : Int) (z4 : Int) (z5 : Int) (z6 : Int) (z7 : Int) (z8 : Int) (z9 : Bool) (k : AVal → List Blk → Option R) : contOf (Cfg.of tis F44 fu (List.length ([] : List Blk)) Try.f44.ntmps) G52 (bodyOf Try.f44) [1, 1, 1, 1, 1, 1, 1, 1, 1, 1, 1, 1, 1, 1, 0, 0] (retK tis F44 Try.f44 (List.length ([] : List Blk)) k) (Ex.exit 0) ⟨[(2, (.int .u64 (z0))), (8, (.int .u64 (z1))), (9, (.int .u64 (z2))), (10, (.int .u64 (z3))), (11, (.int .u64 (z4))), (13, (.int .u64 (z5))), (14, (.int .u64 (z6))), (15, (.int .u64 (z7))), (16, (.int .u64 (z8))), (85, (.bool (z9)))], []⟩ = oK (fun v : Int × Int => k (.tuple [(.int .u64 v.1), (.int .u64 v.2)]) []) (S.div64_a0_0 fu hi lo b z0 z1 z2 z3 z4 z5 z6 z7 z8 z9) :=
  (S.div64_a0_0_k fu hi lo b z0 z1 z2 z3 z4 z5 z6 z7 z8 z9 k).trans (bif_lift (f := (oK (fun v : Int × Int => k (.tuple [(.int .u64 v.1), (.int .u64 v.2)]) []))) rfl (arr_lift (S.div64_l1_v fu hi lo b (contOf (Cfg.of tis F44 fu (List.length ([] : List Blk)) Try.f44.ntmps) G52 (bodyOf Try.f44) [1, 1, 1, 1, 1, 1, 1, 1, 1, 1, 1, 1, 1, 1, 1, 1, 1, 1, 0, 0] (retK tis F44 Try.f44 (List.length ([] : List Blk)) k)) fu (z0) (z1) (z2) (z3) (z6) (z7) (Go.IntKind.wrap .u64 (Go.IntKind.wrap .u64 (Go.IntKind.wrap .u64 (Go.IntKind.wrap .u64 (z4 * 4294967296) + z5) - Go.IntKind.wrap .u64 (z7 * z0)) - Go.IntKind.wrap .u64 (Go.IntKind.wrap .u64 (Int.tdiv (Go.IntKind.wrap .u64 (Go.IntKind.wrap .u64 (Go.IntKind.wrap .u64 (z4 * 4294967296) + z5) - Go.IntKind.wrap .u64 (z7 * z0))) z2) * z2))) (Go.IntKind.wrap .u64 (Go.IntKind.wrap .u64 (Go.IntKind.wrap .u64 (z4 * 4294967296) + z5) - Go.IntKind.wrap .u64 (z7 * z0))) (Go.IntKind.wrap .u64 (Int.tdiv (Go.IntKind.wrap .u64 (Go.IntKind.wrap .u64 (Go.IntKind.wrap .u64 (z4 * 4294967296) + z5) - Go.IntKind.wrap .u64 (z7 * z0))) z2))) ((sum_lift (fun z => S.div64_a1_0_v fu hi lo b (z.1) (z.2.1) (z.2.2.1) (z.2.2.2.1) (z.2.2.2.2.1) (z.2.2.2.2.2.1) (z.2.2.2.2.2.2.1) (z.2.2.2.2.2.2.2.1) (z.2.2.2.2.2.2.2.2.1) (z.2.2.2.2.2.2.2.2.2) k) (fun z => S.div64_a1_1_v fu hi lo b (z.1) (z.2.1) (z.2.2.1) (z.2.2.2.1) (z.2.2.2.2.1) (z.2.2.2.2.2.1) (z.2.2.2.2.2.2.1) (z.2.2.2.2.2.2.2.1) (z.2.2.2.2.2.2.2.2.1) (z.2.2.2.2.2.2.2.2.2) k)))))
theorem S.div64_k {R : Type} (fu : Nat) (hi lo b : Int) (k : AVal → List Blk → Option R) : fnEval tis F44 fu G52 Try.f44 [.int .u64 hi, .int .u64 lo, .int .u64 b] [] k =
  (bif decide (b = 0) then
    none
  else
    bif decide (b ≤ hi) then
      none
    else
      bif decide (hi = 0) then
        bif decide (b = 0) then
          none
        else
          bif decide (b = 0) then
            none
          else
            k (.tuple [.int .u64 (Go.IntKind.wrap .u64 (Int.tdiv lo b)), .int .u64 (Int.tmod lo b)]) ([])
      else
        (optK (S.lz64 b) fun o5 =>
          bif decide (Go.IntKind.wrap .u64 o5 < 0) then
            none
          else
            bif decide (Go.IntKind.wrap .u64 o5 < 0) then
              none
            else
              bif decide (Go.IntKind.wrap .u64 (64 - Go.IntKind.wrap .u64 o5) < 0) then
                none
              else
                bif decide (Go.IntKind.wrap .u64 o5 < 0) then
                  none
                else
                  bif decide (Int.fdiv (Go.IntKind.wrap .u64 (b * 2 ^ Min.min (Int.toNat (Go.IntKind.wrap .u64 o5)) 64)) 4294967296 = 0) then
                    none
                  else
                    loopRun (Cfg.of tis F44 fu (List.length ([] : List Blk)) Try.f44.ntmps) G52 S.div64_b0 fu ⟨[(2, (.int .u64 (Go.IntKind.wrap .u64 (b * 2 ^ Min.min (Int.toNat (Go.IntKind.wrap .u64 o5)) 64)))), (8, (.int .u64 (Go.IntKind.wrap .u64 o5))), (9, (.int .u64 (Int.fdiv (Go.IntKind.wrap .u64 (b * 2 ^ Min.min (Int.toNat (Go.IntKind.wrap .u64 o5)) 64)) 4294967296))), (10, (.int .u64 (bitsA Go.BinOp.and .u64 (Go.IntKind.wrap .u64 (b * 2 ^ Min.min (Int.toNat (Go.IntKind.wrap .u64 o5)) 64)) 4294967295))), (11, (.int .u64 (bitsA Go.BinOp.or .u64 (Go.IntKind.wrap .u64 (hi * 2 ^ Min.min (Int.toNat (Go.IntKind.wrap .u64 o5)) 64)) (Int.fdiv lo (2 ^ Min.min (Int.toNat (Go.IntKind.wrap .u64 (64 - Go.IntKind.wrap .u64 o5))) 64))))), (13, (.int .u64 (Int.fdiv (Go.IntKind.wrap .u64 (lo * 2 ^ Min.min (Int.toNat (Go.IntKind.wrap .u64 o5)) 64)) 4294967296))), (14, (.int .u64 (bitsA Go.BinOp.and .u64 (Go.IntKind.wrap .u64 (lo * 2 ^ Min.min (Int.toNat (Go.IntKind.wrap .u64 o5)) 64)) 4294967295))), (15, (.int .u64 (Go.IntKind.wrap .u64 (Int.tdiv (bitsA Go.BinOp.or .u64 (Go.IntKind.wrap .u64 (hi * 2 ^ Min.min (Int.toNat (Go.IntKind.wrap .u64 o5)) 64)) (Int.fdiv lo (2 ^ Min.min (Int.toNat (Go.IntKind.wrap .u64 (64 - Go.IntKind.wrap .u64 o5))) 64))) (Int.fdiv (Go.IntKind.wrap .u64 (b * 2 ^ Min.min (Int.toNat (Go.IntKind.wrap .u64 o5)) 64)) 4294967296))))), (16, (.int .u64 (Go.IntKind.wrap .u64 (bitsA Go.BinOp.or .u64 (Go.IntKind.wrap .u64 (hi * 2 ^ Min.min (Int.toNat (Go.IntKind.wrap .u64 o5)) 64)) (Int.fdiv lo (2 ^ Min.min (Int.toNat (Go.IntKind.wrap .u64 (64 - Go.IntKind.wrap .u64 o5))) 64)) - Go.IntKind.wrap .u64 (Go.IntKind.wrap .u64 (Int.tdiv (bitsA Go.BinOp.or .u64 (Go.IntKind.wrap .u64 (hi * 2 ^ Min.min (Int.toNat (Go.IntKind.wrap .u64 o5)) 64)) (Int.fdiv lo (2 ^ Min.min (Int.toNat (Go.IntKind.wrap .u64 (64 - Go.IntKind.wrap .u64 o5))) 64))) (Int.fdiv (Go.IntKind.wrap .u64 (b * 2 ^ Min.min (Int.toNat (Go.IntKind.wrap .u64 o5)) 64)) 4294967296)) * Int.fdiv (Go.IntKind.wrap .u64 (b * 2 ^ Min.min (Int.toNat (Go.IntKind.wrap .u64 o5)) 64)) 4294967296)))))], []⟩ (contOf (Cfg.of tis F44 fu (List.length ([] : List Blk)) Try.f44.ntmps) G52 (bodyOf Try.f44) [1, 1, 1, 1, 1, 1, 1, 1, 1, 1, 1, 1, 1, 1, 0, 0] (retK tis F44 Try.f44 (List.length ([] : List Blk)) k)))) := by kernel_rfl
def S.div64 (fu : Nat) (hi lo b : Int) : Option (Int × Int) :=
  bif decide (b = 0) then
    none
  else
    bif decide (b ≤ hi) then
      none
    else
      bif decide (hi = 0) then
        bif decide (b = 0) then
          none
        else
          bif decide (b = 0) then
            none
          else
            some (Go.IntKind.wrap .u64 (Int.tdiv lo b), Int.tmod lo b)
      else
        (optK (S.lz64 b) fun o5 =>
          bif decide (Go.IntKind.wrap .u64 o5 < 0) then
            none
          else
            bif decide (Go.IntKind.wrap .u64 o5 < 0) then
              none
            else
              bif decide (Go.IntKind.wrap .u64 (64 - Go.IntKind.wrap .u64 o5) < 0) then
                none
              else
                bif decide (Go.IntKind.wrap .u64 o5 < 0) then
                  none
                else
                  bif decide (Int.fdiv (Go.IntKind.wrap .u64 (b * 2 ^ Min.min (Int.toNat (Go.IntKind.wrap .u64 o5)) 64)) 4294967296 = 0) then
                    none
                  else
                    optK (S.div64_l0 fu hi lo b fu (Go.IntKind.wrap .u64 (b * 2 ^ Min.min (Int.toNat (Go.IntKind.wrap .u64 o5)) 64)) (Go.IntKind.wrap .u64 o5) (Int.fdiv (Go.IntKind.wrap .u64 (b * 2 ^ Min.min (Int.toNat (Go.IntKind.wrap .u64 o5)) 64)) 4294967296) (bitsA Go.BinOp.and .u64 (Go.IntKind.wrap .u64 (b * 2 ^ Min.min (Int.toNat (Go.IntKind.wrap .u64 o5)) 64)) 4294967295) (bitsA Go.BinOp.or .u64 (Go.IntKind.wrap .u64 (hi * 2 ^ Min.min (Int.toNat (Go.IntKind.wrap .u64 o5)) 64)) (Int.fdiv lo (2 ^ Min.min (Int.toNat (Go.IntKind.wrap .u64 (64 - Go.IntKind.wrap .u64 o5))) 64))) (Int.fdiv (Go.IntKind.wrap .u64 (lo * 2 ^ Min.min (Int.toNat (Go.IntKind.wrap .u64 o5)) 64)) 4294967296) (bitsA Go.BinOp.and .u64 (Go.IntKind.wrap .u64 (lo * 2 ^ Min.min (Int.toNat (Go.IntKind.wrap .u64 o5)) 64)) 4294967295) (Go.IntKind.wrap .u64 (Int.tdiv (bitsA Go.BinOp.or .u64 (Go.IntKind.wrap .u64 (hi * 2 ^ Min.min (Int.toNat (Go.IntKind.wrap .u64 o5)) 64)) (Int.fdiv lo (2 ^ Min.min (Int.toNat (Go.IntKind.wrap .u64 (64 - Go.IntKind.wrap .u64 o5))) 64))) (Int.fdiv (Go.IntKind.wrap .u64 (b * 2 ^ Min.min (Int.toNat (Go.IntKind.wrap .u64 o5)) 64)) 4294967296))) (Go.IntKind.wrap .u64 (bitsA Go.BinOp.or .u64 (Go.IntKind.wrap .u64 (hi * 2 ^ Min.min (Int.toNat (Go.IntKind.wrap .u64 o5)) 64)) (Int.fdiv lo (2 ^ Min.min (Int.toNat (Go.IntKind.wrap .u64 (64 - Go.IntKind.wrap .u64 o5))) 64)) - Go.IntKind.wrap .u64 (Go.IntKind.wrap .u64 (Int.tdiv (bitsA Go.BinOp.or .u64 (Go.IntKind.wrap .u64 (hi * 2 ^ Min.min (Int.toNat (Go.IntKind.wrap .u64 o5)) 64)) (Int.fdiv lo (2 ^ Min.min (Int.toNat (Go.IntKind.wrap .u64 (64 - Go.IntKind.wrap .u64 o5))) 64))) (Int.fdiv (Go.IntKind.wrap .u64 (b * 2 ^ Min.min (Int.toNat (Go.IntKind.wrap .u64 o5)) 64)) 4294967296)) * Int.fdiv (Go.IntKind.wrap .u64 (b * 2 ^ Min.min (Int.toNat (Go.IntKind.wrap .u64 o5)) 64)) 4294967296)))) (Sum.elim (fun z : Int × Int × Int × Int × Int × Int × Int × Int × Int × Bool => S.div64_a0_0 fu hi lo b (z.1) (z.2.1) (z.2.2.1) (z.2.2.2.1) (z.2.2.2.2.1) (z.2.2.2.2.2.1) (z.2.2.2.2.2.2.1) (z.2.2.2.2.2.2.2.1) (z.2.2.2.2.2.2.2.2.1) (z.2.2.2.2.2.2.2.2.2)) (fun z : Int × Int × Int × Int × Int × Int × Int × Int × Int × Bool => S.div64_a0_1 fu hi lo b (z.1) (z.2.1) (z.2.2.1) (z.2.2.2.1) (z.2.2.2.2.1) (z.2.2.2.2.2.1) (z.2.2.2.2.2.2.1) (z.2.2.2.2.2.2.2.1) (z.2.2.2.2.2.2.2.2.1) (z.2.2.2.2.2.2.2.2.2))))
theorem S.div64_v {R : Type} (fu : Nat) (hi lo b : Int) (k : AVal → List Blk → Option R) : fnEval tis F44 fu G52 Try.f44 [.int .u64 hi, .int .u64 lo, .int .u64 b] [] k = oK (fun v : Int × Int => k (.tuple [(.int .u64 v.1), (.int .u64 v.2)]) []) (S.div64 fu hi lo b) :=
  (S.div64_k fu hi lo b k).trans (bif_lift (f := (oK (fun v : Int × Int => k (.tuple [(.int .u64 v.1), (.int .u64 v.2)]) []))) rfl (bif_lift (f := (oK (fun v : Int × Int => k (.tuple [(.int .u64 v.1), (.int .u64 v.2)]) []))) rfl (bif_lift (f := (oK (fun v : Int × Int => k (.tuple [(.int .u64 v.1), (.int .u64 v.2)]) []))) (bif_lift (f := (oK (fun v : Int × Int => k (.tuple [(.int .u64 v.1), (.int .u64 v.2)]) []))) rfl (bif_lift (f := (oK (fun v : Int × Int => k (.tuple [(.int .u64 v.1), (.int .u64 v.2)]) []))) rfl rfl)) (opt_lift fun o5 => (bif_lift (f := (oK (fun v : Int × Int => k (.tuple [(.int .u64 v.1), (.int .u64 v.2)]) []))) rfl (bif_lift (f := (oK (fun v : Int × Int => k (.tuple [(.int .u64 v.1), (.int .u64 v.2)]) []))) rfl (bif_lift (f := (oK (fun v : Int × Int => k (.tuple [(.int .u64 v.1), (.int .u64 v.2)]) []))) rfl (bif_lift (f := (oK (fun v : Int × Int => k (.tuple [(.int .u64 v.1), (.int .u64 v.2)]) []))) rfl (bif_lift (f := (oK (fun v : Int × Int => k (.tuple [(.int .u64 v.1), (.int .u64 v.2)]) []))) rfl (arr_lift (S.div64_l0_v fu hi lo b (contOf (Cfg.of tis F44 fu (List.length ([] : List Blk)) Try.f44.ntmps) G52 (bodyOf Try.f44) [1, 1, 1, 1, 1, 1, 1, 1, 1, 1, 1, 1, 1, 1, 0, 0] (retK tis F44 Try.f44 (List.length ([] : List Blk)) k)) fu (Go.IntKind.wrap .u64 (b * 2 ^ Min.min (Int.toNat (Go.IntKind.wrap .u64 o5)) 64)) (Go.IntKind.wrap .u64 o5) (Int.fdiv (Go.IntKind.wrap .u64 (b * 2 ^ Min.min (Int.toNat (Go.IntKind.wrap .u64 o5)) 64)) 4294967296) (bitsA Go.BinOp.and .u64 (Go.IntKind.wrap .u64 (b * 2 ^ Min.min (Int.toNat (Go.IntKind.wrap .u64 o5)) 64)) 4294967295) (bitsA Go.BinOp.or .u64 (Go.IntKind.wrap .u64 (hi * 2 ^ Min.min (Int.toNat (Go.IntKind.wrap .u64 o5)) 64)) (Int.fdiv lo (2 ^ Min.min (Int.toNat (Go.IntKind.wrap .u64 (64 - Go.IntKind.wrap .u64 o5))) 64))) (Int.fdiv (Go.IntKind.wrap .u64 (lo * 2 ^ Min.min (Int.toNat (Go.IntKind.wrap .u64 o5)) 64)) 4294967296) (bitsA Go.BinOp.and .u64 (Go.IntKind.wrap .u64 (lo * 2 ^ Min.min (Int.toNat (Go.IntKind.wrap .u64 o5)) 64)) 4294967295) (Go.IntKind.wrap .u64 (Int.tdiv (bitsA Go.BinOp.or .u64 (Go.IntKind.wrap .u64 (hi * 2 ^ Min.min (Int.toNat (Go.IntKind.wrap .u64 o5)) 64)) (Int.fdiv lo (2 ^ Min.min (Int.toNat (Go.IntKind.wrap .u64 (64 - Go.IntKind.wrap .u64 o5))) 64))) (Int.fdiv (Go.IntKind.wrap .u64 (b * 2 ^ Min.min (Int.toNat (Go.IntKind.wrap .u64 o5)) 64)) 4294967296))) (Go.IntKind.wrap .u64 (bitsA Go.BinOp.or .u64 (Go.IntKind.wrap .u64 (hi * 2 ^ Min.min (Int.toNat (Go.IntKind.wrap .u64 o5)) 64)) (Int.fdiv lo (2 ^ Min.min (Int.toNat (Go.IntKind.wrap .u64 (64 - Go.IntKind.wrap .u64 o5))) 64)) - Go.IntKind.wrap .u64 (Go.IntKind.wrap .u64 (Int.tdiv (bitsA Go.BinOp.or .u64 (Go.IntKind.wrap .u64 (hi * 2 ^ Min.min (Int.toNat (Go.IntKind.wrap .u64 o5)) 64)) (Int.fdiv lo (2 ^ Min.min (Int.toNat (Go.IntKind.wrap .u64 (64 - Go.IntKind.wrap .u64 o5))) 64))) (Int.fdiv (Go.IntKind.wrap .u64 (b * 2 ^ Min.min (Int.toNat (Go.IntKind.wrap .u64 o5)) 64)) 4294967296)) * Int.fdiv (Go.IntKind.wrap .u64 (b * 2 ^ Min.min (Int.toNat (Go.IntKind.wrap .u64 o5)) 64)) 4294967296)))) ((sum_lift (fun z => S.div64_a0_0_v fu hi lo b (z.1) (z.2.1) (z.2.2.1) (z.2.2.2.1) (z.2.2.2.2.1) (z.2.2.2.2.2.1) (z.2.2.2.2.2.2.1) (z.2.2.2.2.2.2.2.1) (z.2.2.2.2.2.2.2.2.1) (z.2.2.2.2.2.2.2.2.2) k) (fun z => S.div64_a0_1_v fu hi lo b (z.1) (z.2.1) (z.2.2.1) (z.2.2.2.1) (z.2.2.2.2.1) (z.2.2.2.2.2.1) (z.2.2.2.2.2.2.1) (z.2.2.2.2.2.2.2.1) (z.2.2.2.2.2.2.2.2.1) (z.2.2.2.2.2.2.2.2.2) k)))))))))))))
def H44 : Hnd := fun R args σ k => match args, σ with
  | [.int .u64 hi, .int .u64 lo, .int .u64 b], [] => oK (fun v : Int × Int => k (.tuple [(.int .u64 v.1), (.int .u64 v.2)]) []) (S.div64 100000 hi lo b)
  | _, _ => none
theorem H44_ok : HndOk Try.prog 44 H44 := hnd_ok tis tisOk mixOk G52_ok F44 Try.func44 rfl (by
  intro R args σ k r h
  unfold H44 at h
  split at h
  · rename_i hi lo b; exact ⟨100000, (S.div64_v 100000 hi lo b _).trans h⟩
  · cases h)
def G44 : Env := Env.add 44 H44 G52
theorem G44_ok : EnvOk Try.prog G44 := envAdd_ok H44_ok G52_ok
end Go.Proofs.Ytjbdlnomjkhhbaa.AB
