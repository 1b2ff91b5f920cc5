/- The library functions of 128 bits, as plain functions. -/
import Derived.Test.YtdgipcjigbagfaaTis
import Derived.Test.YtdgipcjigbagfaaFwZ
namespace Go.Proofs.Ytdgipcjigbagfaa.AB
set_option linter.unusedVariables false

/-! milli.end -/
def F89 : FCfg := ⟨keepAt [(0, [0]), (1, [4, 5]), (2, [14]), (3, [2, 3]), (4, [2, 3])], loopAt [], []⟩
theorem S.mend_k {R : Type} (up : Bool) (k : AVal → List Blk → Option R) : fnEval tis F89 0 Env.none Try.f89 [.iface 4 (.bool up)] [] k =
  (bif up then
   k (.tuple [.int .i64 9223372036854775807, .int .i64 2]) ([])
 else
   k (.tuple [.int .i64 (-9223372036854775808), .int .i64 2]) ([])) := by kernel_rfl
def S.mend (up : Bool) : Int × Int :=
  bif up then
   (9223372036854775807, 2)
 else
   (-9223372036854775808, 2)
noncomputable def S.mend_gk {R : Type} (up : Bool) (k : AVal → List Blk → Option R) : (Int × Int) → Option R := (fun v : Int × Int => k (.tuple [(.int .i64 v.1), (.int .i64 v.2)]) [])
theorem S.mend_v {R : Type} (up : Bool) (k : AVal → List Blk → Option R) : fnEval tis F89 0 Env.none Try.f89 [.iface 4 (.bool up)] [] k = k (.tuple [(.int .i64 (S.mend up).1), (.int .i64 (S.mend up).2)]) [] :=
  (S.mend_k up k).trans (bif_lift (f := (S.mend_gk up k)) rfl rfl)
def H89 : Hnd := fun R args σ k => match args, σ with
  | [.iface 4 (.bool up)], [] => k (.tuple [(.int .i64 (S.mend up).1), (.int .i64 (S.mend up).2)]) []
  | _, _ => none
theorem H89_ok : HndOk Try.prog 89 H89 := hnd_ok tis tisOk mixOk envNone_ok F89 Try.func89 rfl (by
  intro R args σ k r h
  unfold H89 at h
  split at h
  · rename_i up; exact ⟨0, (S.mend_v up _).trans h⟩
  · cases h)
def G89 : Env := Env.add 89 H89 Env.none
theorem G89_ok : EnvOk Try.prog G89 := envAdd_ok H89_ok envNone_ok

/-! math/bits.Mul64 -/
def F90 : FCfg := ⟨keepAt [(0, [0, 1]), (1, [0, 1, 6]), (2, [0, 1, 6, 7]), (3, [0, 1, 6, 7, 8]), (4, [0, 1, 6, 7, 8, 9]), (5, [0, 1, 6, 7, 8, 9, 10]), (6, [0, 1, 6, 7, 9, 11]), (7, [0, 1, 6, 7, 9, 11, 12]), (8, [0, 1, 6, 7, 9, 12, 13]), (9, [0, 1, 7, 9, 12, 13]), (10, [0, 1, 4]), (11, [4, 5])], loopAt [], []⟩
theorem S.mul64_k {R : Type} (a b : Int) (k : AVal → List Blk → Option R) : fnEval tis F90 0 G89 Try.f90 [.int .u64 a, .int .u64 b] [] k =
  (k (.tuple [.int .u64 (Go.IntKind.wrap .u64 (Go.IntKind.wrap .u64 (Go.IntKind.wrap .u64 (Int.fdiv a 4294967296 * Int.fdiv b 4294967296) + Int.fdiv (Go.IntKind.wrap .u64 (Go.IntKind.wrap .u64 (Int.fdiv a 4294967296 * bitsA Go.BinOp.and .u64 b 4294967295) + Int.fdiv (Go.IntKind.wrap .u64 (bitsA Go.BinOp.and .u64 a 4294967295 * bitsA Go.BinOp.and .u64 b 4294967295)) 4294967296)) 4294967296) + Int.fdiv (Go.IntKind.wrap .u64 (bitsA Go.BinOp.and .u64 (Go.IntKind.wrap .u64 (Go.IntKind.wrap .u64 (Int.fdiv a 4294967296 * bitsA Go.BinOp.and .u64 b 4294967295) + Int.fdiv (Go.IntKind.wrap .u64 (bitsA Go.BinOp.and .u64 a 4294967295 * bitsA Go.BinOp.and .u64 b 4294967295)) 4294967296)) 4294967295 + Go.IntKind.wrap .u64 (bitsA Go.BinOp.and .u64 a 4294967295 * Int.fdiv b 4294967296))) 4294967296)), .int .u64 (Go.IntKind.wrap .u64 (a * b))]) ([])) := by kernel_rfl
def S.mul64 (a b : Int) : Int × Int :=
  (Go.IntKind.wrap .u64 (Go.IntKind.wrap .u64 (Go.IntKind.wrap .u64 (Int.fdiv a 4294967296 * Int.fdiv b 4294967296) + Int.fdiv (Go.IntKind.wrap .u64 (Go.IntKind.wrap .u64 (Int.fdiv a 4294967296 * bitsA Go.BinOp.and .u64 b 4294967295) + Int.fdiv (Go.IntKind.wrap .u64 (bitsA Go.BinOp.and .u64 a 4294967295 * bitsA Go.BinOp.and .u64 b 4294967295)) 4294967296)) 4294967296) + Int.fdiv (Go.IntKind.wrap .u64 (bitsA Go.BinOp.and .u64 (Go.IntKind.wrap .u64 (Go.IntKind.wrap .u64 (Int.fdiv a 4294967296 * bitsA Go.BinOp.and .u64 b 4294967295) + Int.fdiv (Go.IntKind.wrap .u64 (bitsA Go.BinOp.and .u64 a 4294967295 * bitsA Go.BinOp.and .u64 b 4294967295)) 4294967296)) 4294967295 + Go.IntKind.wrap .u64 (bitsA Go.BinOp.and .u64 a 4294967295 * Int.fdiv b 4294967296))) 4294967296), Go.IntKind.wrap .u64 (a * b))
theorem S.mul64_v {R : Type} (a b : Int) (k : AVal → List Blk → Option R) : fnEval tis F90 0 G89 Try.f90 [.int .u64 a, .int .u64 b] [] k = k (.tuple [(.int .u64 (S.mul64 a b).1), (.int .u64 (S.mul64 a b).2)]) [] :=
  (S.mul64_k a b k).trans rfl
def H90 : Hnd := fun R args σ k => match args, σ with
  | [.int .u64 a, .int .u64 b], [] => k (.tuple [(.int .u64 (S.mul64 a b).1), (.int .u64 (S.mul64 a b).2)]) []
  | _, _ => none
theorem H90_ok : HndOk Try.prog 90 H90 := hnd_ok tis tisOk mixOk G89_ok F90 Try.func90 rfl (by
  intro R args σ k r h
  unfold H90 at h
  split at h
  · rename_i a b; exact ⟨0, (S.mul64_v a b _).trans h⟩
  · cases h)
def G90 : Env := Env.add 90 H90 G89
theorem G90_ok : EnvOk Try.prog G90 := envAdd_ok H90_ok G89_ok

/-! math/bits.Len64 -/
def F95 : FCfg := ⟨keepAt [(0, [0, 2]), (1, [0, 2, 4]), (2, [0]), (3, [0, 2]), (4, [0, 2, 8]), (5, [0, 2]), (6, [0, 2]), (7, [0, 2, 14]), (8, [0, 2]), (9, [0, 2]), (10, [2])], loopAt [], []⟩
theorem S.len64_k {R : Type} (a : Int) (k : AVal → List Blk → Option R) : fnEval tis F95 0 G90 Try.f95 [.int .u64 a] [] k =
  (bif decide (4294967296 ≤ a) then
   bif decide (65536 ≤ Int.fdiv a 4294967296) then
   bif decide (256 ≤ Int.fdiv (Int.fdiv a 4294967296) 65536) then
   bif inB (Go.IntKind.wrap .u8 (Int.fdiv (Int.fdiv (Int.fdiv a 4294967296) 65536) 256)) 256 then
   k (.int .i64 (Go.IntKind.wrap .i64 (56 + Go.IntKind.wrap .i64 (byteAt (bs [0, 1, 2, 2, 3, 3, 3, 3, 4, 4, 4, 4, 4, 4, 4, 4, 5, 5, 5, 5, 5, 5, 5, 5, 5, 5, 5, 5, 5, 5, 5, 5, 6, 6, 6, 6, 6, 6, 6, 6, 6, 6, 6, 6, 6, 6, 6, 6, 6, 6, 6, 6, 6, 6, 6, 6, 6, 6, 6, 6, 6, 6, 6, 6, 7, 7, 7, 7, 7, 7, 7, 7, 7, 7, 7, 7, 7, 7, 7, 7, 7, 7, 7, 7, 7, 7, 7, 7, 7, 7, 7, 7, 7, 7, 7, 7, 7, 7, 7, 7, 7, 7, 7, 7, 7, 7, 7, 7, 7, 7, 7, 7, 7, 7, 7, 7, 7, 7, 7, 7, 7, 7, 7, 7, 7, 7, 7, 7, 8, 8, 8, 8, 8, 8, 8, 8, 8, 8, 8, 8, 8, 8, 8, 8, 8, 8, 8, 8, 8, 8, 8, 8, 8, 8, 8, 8, 8, 8, 8, 8, 8, 8, 8, 8, 8, 8, 8, 8, 8, 8, 8, 8, 8, 8, 8, 8, 8, 8, 8, 8, 8, 8, 8, 8, 8, 8, 8, 8, 8, 8, 8, 8, 8, 8, 8, 8, 8, 8, 8, 8, 8, 8, 8, 8, 8, 8, 8, 8, 8, 8, 8, 8, 8, 8, 8, 8, 8, 8, 8, 8, 8, 8, 8, 8, 8, 8, 8, 8, 8, 8, 8, 8, 8, 8, 8, 8, 8, 8, 8, 8, 8, 8, 8, 8, 8, 8, 8, 8, 8, 8, 8, 8, 8, 8, 8, 8]) (Int.toNat (Go.IntKind.wrap .u8 (Int.fdiv (Int.fdiv (Int.fdiv a 4294967296) 65536) 256))))))) ([])
 else
   none
 else
   bif inB (Go.IntKind.wrap .u8 (Int.fdiv (Int.fdiv a 4294967296) 65536)) 256 then
   k (.int .i64 (Go.IntKind.wrap .i64 (48 + Go.IntKind.wrap .i64 (byteAt (bs [0, 1, 2, 2, 3, 3, 3, 3, 4, 4, 4, 4, 4, 4, 4, 4, 5, 5, 5, 5, 5, 5, 5, 5, 5, 5, 5, 5, 5, 5, 5, 5, 6, 6, 6, 6, 6, 6, 6, 6, 6, 6, 6, 6, 6, 6, 6, 6, 6, 6, 6, 6, 6, 6, 6, 6, 6, 6, 6, 6, 6, 6, 6, 6, 7, 7, 7, 7, 7, 7, 7, 7, 7, 7, 7, 7, 7, 7, 7, 7, 7, 7, 7, 7, 7, 7, 7, 7, 7, 7, 7, 7, 7, 7, 7, 7, 7, 7, 7, 7, 7, 7, 7, 7, 7, 7, 7, 7, 7, 7, 7, 7, 7, 7, 7, 7, 7, 7, 7, 7, 7, 7, 7, 7, 7, 7, 7, 7, 8, 8, 8, 8, 8, 8, 8, 8, 8, 8, 8, 8, 8, 8, 8, 8, 8, 8, 8, 8, 8, 8, 8, 8, 8, 8, 8, 8, 8, 8, 8, 8, 8, 8, 8, 8, 8, 8, 8, 8, 8, 8, 8, 8, 8, 8, 8, 8, 8, 8, 8, 8, 8, 8, 8, 8, 8, 8, 8, 8, 8, 8, 8, 8, 8, 8, 8, 8, 8, 8, 8, 8, 8, 8, 8, 8, 8, 8, 8, 8, 8, 8, 8, 8, 8, 8, 8, 8, 8, 8, 8, 8, 8, 8, 8, 8, 8, 8, 8, 8, 8, 8, 8, 8, 8, 8, 8, 8, 8, 8, 8, 8, 8, 8, 8, 8, 8, 8, 8, 8, 8, 8, 8, 8, 8, 8, 8, 8]) (Int.toNat (Go.IntKind.wrap .u8 (Int.fdiv (Int.fdiv a 4294967296) 65536))))))) ([])
 else
   none
 else
   bif decide (256 ≤ Int.fdiv a 4294967296) then
   bif inB (Go.IntKind.wrap .u8 (Int.fdiv (Int.fdiv a 4294967296) 256)) 256 then
   k (.int .i64 (Go.IntKind.wrap .i64 (40 + Go.IntKind.wrap .i64 (byteAt (bs [0, 1, 2, 2, 3, 3, 3, 3, 4, 4, 4, 4, 4, 4, 4, 4, 5, 5, 5, 5, 5, 5, 5, 5, 5, 5, 5, 5, 5, 5, 5, 5, 6, 6, 6, 6, 6, 6, 6, 6, 6, 6, 6, 6, 6, 6, 6, 6, 6, 6, 6, 6, 6, 6, 6, 6, 6, 6, 6, 6, 6, 6, 6, 6, 7, 7, 7, 7, 7, 7, 7, 7, 7, 7, 7, 7, 7, 7, 7, 7, 7, 7, 7, 7, 7, 7, 7, 7, 7, 7, 7, 7, 7, 7, 7, 7, 7, 7, 7, 7, 7, 7, 7, 7, 7, 7, 7, 7, 7, 7, 7, 7, 7, 7, 7, 7, 7, 7, 7, 7, 7, 7, 7, 7, 7, 7, 7, 7, 8, 8, 8, 8, 8, 8, 8, 8, 8, 8, 8, 8, 8, 8, 8, 8, 8, 8, 8, 8, 8, 8, 8, 8, 8, 8, 8, 8, 8, 8, 8, 8, 8, 8, 8, 8, 8, 8, 8, 8, 8, 8, 8, 8, 8, 8, 8, 8, 8, 8, 8, 8, 8, 8, 8, 8, 8, 8, 8, 8, 8, 8, 8, 8, 8, 8, 8, 8, 8, 8, 8, 8, 8, 8, 8, 8, 8, 8, 8, 8, 8, 8, 8, 8, 8, 8, 8, 8, 8, 8, 8, 8, 8, 8, 8, 8, 8, 8, 8, 8, 8, 8, 8, 8, 8, 8, 8, 8, 8, 8, 8, 8, 8, 8, 8, 8, 8, 8, 8, 8, 8, 8, 8, 8, 8, 8, 8, 8]) (Int.toNat (Go.IntKind.wrap .u8 (Int.fdiv (Int.fdiv a 4294967296) 256))))))) ([])
 else
   none
 else
   bif inB (Go.IntKind.wrap .u8 (Int.fdiv a 4294967296)) 256 then
   k (.int .i64 (Go.IntKind.wrap .i64 (32 + Go.IntKind.wrap .i64 (byteAt (bs [0, 1, 2, 2, 3, 3, 3, 3, 4, 4, 4, 4, 4, 4, 4, 4, 5, 5, 5, 5, 5, 5, 5, 5, 5, 5, 5, 5, 5, 5, 5, 5, 6, 6, 6, 6, 6, 6, 6, 6, 6, 6, 6, 6, 6, 6, 6, 6, 6, 6, 6, 6, 6, 6, 6, 6, 6, 6, 6, 6, 6, 6, 6, 6, 7, 7, 7, 7, 7, 7, 7, 7, 7, 7, 7, 7, 7, 7, 7, 7, 7, 7, 7, 7, 7, 7, 7, 7, 7, 7, 7, 7, 7, 7, 7, 7, 7, 7, 7, 7, 7, 7, 7, 7, 7, 7, 7, 7, 7, 7, 7, 7, 7, 7, 7, 7, 7, 7, 7, 7, 7, 7, 7, 7, 7, 7, 7, 7, 8, 8, 8, 8, 8, 8, 8, 8, 8, 8, 8, 8, 8, 8, 8, 8, 8, 8, 8, 8, 8, 8, 8, 8, 8, 8, 8, 8, 8, 8, 8, 8, 8, 8, 8, 8, 8, 8, 8, 8, 8, 8, 8, 8, 8, 8, 8, 8, 8, 8, 8, 8, 8, 8, 8, 8, 8, 8, 8, 8, 8, 8, 8, 8, 8, 8, 8, 8, 8, 8, 8, 8, 8, 8, 8, 8, 8, 8, 8, 8, 8, 8, 8, 8, 8, 8, 8, 8, 8, 8, 8, 8, 8, 8, 8, 8, 8, 8, 8, 8, 8, 8, 8, 8, 8, 8, 8, 8, 8, 8, 8, 8, 8, 8, 8, 8, 8, 8, 8, 8, 8, 8, 8, 8, 8, 8, 8, 8]) (Int.toNat (Go.IntKind.wrap .u8 (Int.fdiv a 4294967296))))))) ([])
 else
   none
 else
   bif decide (65536 ≤ a) then
   bif decide (256 ≤ Int.fdiv a 65536) then
   bif inB (Go.IntKind.wrap .u8 (Int.fdiv (Int.fdiv a 65536) 256)) 256 then
   k (.int .i64 (Go.IntKind.wrap .i64 (24 + Go.IntKind.wrap .i64 (byteAt (bs [0, 1, 2, 2, 3, 3, 3, 3, 4, 4, 4, 4, 4, 4, 4, 4, 5, 5, 5, 5, 5, 5, 5, 5, 5, 5, 5, 5, 5, 5, 5, 5, 6, 6, 6, 6, 6, 6, 6, 6, 6, 6, 6, 6, 6, 6, 6, 6, 6, 6, 6, 6, 6, 6, 6, 6, 6, 6, 6, 6, 6, 6, 6, 6, 7, 7, 7, 7, 7, 7, 7, 7, 7, 7, 7, 7, 7, 7, 7, 7, 7, 7, 7, 7, 7, 7, 7, 7, 7, 7, 7, 7, 7, 7, 7, 7, 7, 7, 7, 7, 7, 7, 7, 7, 7, 7, 7, 7, 7, 7, 7, 7, 7, 7, 7, 7, 7, 7, 7, 7, 7, 7, 7, 7, 7, 7, 7, 7, 8, 8, 8, 8, 8, 8, 8, 8, 8, 8, 8, 8, 8, 8, 8, 8, 8, 8, 8, 8, 8, 8, 8, 8, 8, 8, 8, 8, 8, 8, 8, 8, 8, 8, 8, 8, 8, 8, 8, 8, 8, 8, 8, 8, 8, 8, 8, 8, 8, 8, 8, 8, 8, 8, 8, 8, 8, 8, 8, 8, 8, 8, 8, 8, 8, 8, 8, 8, 8, 8, 8, 8, 8, 8, 8, 8, 8, 8, 8, 8, 8, 8, 8, 8, 8, 8, 8, 8, 8, 8, 8, 8, 8, 8, 8, 8, 8, 8, 8, 8, 8, 8, 8, 8, 8, 8, 8, 8, 8, 8, 8, 8, 8, 8, 8, 8, 8, 8, 8, 8, 8, 8, 8, 8, 8, 8, 8, 8]) (Int.toNat (Go.IntKind.wrap .u8 (Int.fdiv (Int.fdiv a 65536) 256))))))) ([])
 else
   none
 else
   bif inB (Go.IntKind.wrap .u8 (Int.fdiv a 65536)) 256 then
   k (.int .i64 (Go.IntKind.wrap .i64 (16 + Go.IntKind.wrap .i64 (byteAt (bs [0, 1, 2, 2, 3, 3, 3, 3, 4, 4, 4, 4, 4, 4, 4, 4, 5, 5, 5, 5, 5, 5, 5, 5, 5, 5, 5, 5, 5, 5, 5, 5, 6, 6, 6, 6, 6, 6, 6, 6, 6, 6, 6, 6, 6, 6, 6, 6, 6, 6, 6, 6, 6, 6, 6, 6, 6, 6, 6, 6, 6, 6, 6, 6, 7, 7, 7, 7, 7, 7, 7, 7, 7, 7, 7, 7, 7, 7, 7, 7, 7, 7, 7, 7, 7, 7, 7, 7, 7, 7, 7, 7, 7, 7, 7, 7, 7, 7, 7, 7, 7, 7, 7, 7, 7, 7, 7, 7, 7, 7, 7, 7, 7, 7, 7, 7, 7, 7, 7, 7, 7, 7, 7, 7, 7, 7, 7, 7, 8, 8, 8, 8, 8, 8, 8, 8, 8, 8, 8, 8, 8, 8, 8, 8, 8, 8, 8, 8, 8, 8, 8, 8, 8, 8, 8, 8, 8, 8, 8, 8, 8, 8, 8, 8, 8, 8, 8, 8, 8, 8, 8, 8, 8, 8, 8, 8, 8, 8, 8, 8, 8, 8, 8, 8, 8, 8, 8, 8, 8, 8, 8, 8, 8, 8, 8, 8, 8, 8, 8, 8, 8, 8, 8, 8, 8, 8, 8, 8, 8, 8, 8, 8, 8, 8, 8, 8, 8, 8, 8, 8, 8, 8, 8, 8, 8, 8, 8, 8, 8, 8, 8, 8, 8, 8, 8, 8, 8, 8, 8, 8, 8, 8, 8, 8, 8, 8, 8, 8, 8, 8, 8, 8, 8, 8, 8, 8]) (Int.toNat (Go.IntKind.wrap .u8 (Int.fdiv a 65536))))))) ([])
 else
   none
 else
   bif decide (256 ≤ a) then
   bif inB (Go.IntKind.wrap .u8 (Int.fdiv a 256)) 256 then
   k (.int .i64 (Go.IntKind.wrap .i64 (8 + Go.IntKind.wrap .i64 (byteAt (bs [0, 1, 2, 2, 3, 3, 3, 3, 4, 4, 4, 4, 4, 4, 4, 4, 5, 5, 5, 5, 5, 5, 5, 5, 5, 5, 5, 5, 5, 5, 5, 5, 6, 6, 6, 6, 6, 6, 6, 6, 6, 6, 6, 6, 6, 6, 6, 6, 6, 6, 6, 6, 6, 6, 6, 6, 6, 6, 6, 6, 6, 6, 6, 6, 7, 7, 7, 7, 7, 7, 7, 7, 7, 7, 7, 7, 7, 7, 7, 7, 7, 7, 7, 7, 7, 7, 7, 7, 7, 7, 7, 7, 7, 7, 7, 7, 7, 7, 7, 7, 7, 7, 7, 7, 7, 7, 7, 7, 7, 7, 7, 7, 7, 7, 7, 7, 7, 7, 7, 7, 7, 7, 7, 7, 7, 7, 7, 7, 8, 8, 8, 8, 8, 8, 8, 8, 8, 8, 8, 8, 8, 8, 8, 8, 8, 8, 8, 8, 8, 8, 8, 8, 8, 8, 8, 8, 8, 8, 8, 8, 8, 8, 8, 8, 8, 8, 8, 8, 8, 8, 8, 8, 8, 8, 8, 8, 8, 8, 8, 8, 8, 8, 8, 8, 8, 8, 8, 8, 8, 8, 8, 8, 8, 8, 8, 8, 8, 8, 8, 8, 8, 8, 8, 8, 8, 8, 8, 8, 8, 8, 8, 8, 8, 8, 8, 8, 8, 8, 8, 8, 8, 8, 8, 8, 8, 8, 8, 8, 8, 8, 8, 8, 8, 8, 8, 8, 8, 8, 8, 8, 8, 8, 8, 8, 8, 8, 8, 8, 8, 8, 8, 8, 8, 8, 8, 8]) (Int.toNat (Go.IntKind.wrap .u8 (Int.fdiv a 256))))))) ([])
 else
   none
 else
   bif inB (Go.IntKind.wrap .u8 a) 256 then
   k (.int .i64 (Go.IntKind.wrap .i64 (0 + Go.IntKind.wrap .i64 (byteAt (bs [0, 1, 2, 2, 3, 3, 3, 3, 4, 4, 4, 4, 4, 4, 4, 4, 5, 5, 5, 5, 5, 5, 5, 5, 5, 5, 5, 5, 5, 5, 5, 5, 6, 6, 6, 6, 6, 6, 6, 6, 6, 6, 6, 6, 6, 6, 6, 6, 6, 6, 6, 6, 6, 6, 6, 6, 6, 6, 6, 6, 6, 6, 6, 6, 7, 7, 7, 7, 7, 7, 7, 7, 7, 7, 7, 7, 7, 7, 7, 7, 7, 7, 7, 7, 7, 7, 7, 7, 7, 7, 7, 7, 7, 7, 7, 7, 7, 7, 7, 7, 7, 7, 7, 7, 7, 7, 7, 7, 7, 7, 7, 7, 7, 7, 7, 7, 7, 7, 7, 7, 7, 7, 7, 7, 7, 7, 7, 7, 8, 8, 8, 8, 8, 8, 8, 8, 8, 8, 8, 8, 8, 8, 8, 8, 8, 8, 8, 8, 8, 8, 8, 8, 8, 8, 8, 8, 8, 8, 8, 8, 8, 8, 8, 8, 8, 8, 8, 8, 8, 8, 8, 8, 8, 8, 8, 8, 8, 8, 8, 8, 8, 8, 8, 8, 8, 8, 8, 8, 8, 8, 8, 8, 8, 8, 8, 8, 8, 8, 8, 8, 8, 8, 8, 8, 8, 8, 8, 8, 8, 8, 8, 8, 8, 8, 8, 8, 8, 8, 8, 8, 8, 8, 8, 8, 8, 8, 8, 8, 8, 8, 8, 8, 8, 8, 8, 8, 8, 8, 8, 8, 8, 8, 8, 8, 8, 8, 8, 8, 8, 8, 8, 8, 8, 8, 8, 8]) (Int.toNat (Go.IntKind.wrap .u8 a)))))) ([])
 else
   none) := by kernel_rfl
def S.len64 (a : Int) : Option (Int) :=
  bif decide (4294967296 ≤ a) then
   bif decide (65536 ≤ Int.fdiv a 4294967296) then
   bif decide (256 ≤ Int.fdiv (Int.fdiv a 4294967296) 65536) then
   bif inB (Go.IntKind.wrap .u8 (Int.fdiv (Int.fdiv (Int.fdiv a 4294967296) 65536) 256)) 256 then
   some (Go.IntKind.wrap .i64 (56 + Go.IntKind.wrap .i64 (byteAt (bs [0, 1, 2, 2, 3, 3, 3, 3, 4, 4, 4, 4, 4, 4, 4, 4, 5, 5, 5, 5, 5, 5, 5, 5, 5, 5, 5, 5, 5, 5, 5, 5, 6, 6, 6, 6, 6, 6, 6, 6, 6, 6, 6, 6, 6, 6, 6, 6, 6, 6, 6, 6, 6, 6, 6, 6, 6, 6, 6, 6, 6, 6, 6, 6, 7, 7, 7, 7, 7, 7, 7, 7, 7, 7, 7, 7, 7, 7, 7, 7, 7, 7, 7, 7, 7, 7, 7, 7, 7, 7, 7, 7, 7, 7, 7, 7, 7, 7, 7, 7, 7, 7, 7, 7, 7, 7, 7, 7, 7, 7, 7, 7, 7, 7, 7, 7, 7, 7, 7, 7, 7, 7, 7, 7, 7, 7, 7, 7, 8, 8, 8, 8, 8, 8, 8, 8, 8, 8, 8, 8, 8, 8, 8, 8, 8, 8, 8, 8, 8, 8, 8, 8, 8, 8, 8, 8, 8, 8, 8, 8, 8, 8, 8, 8, 8, 8, 8, 8, 8, 8, 8, 8, 8, 8, 8, 8, 8, 8, 8, 8, 8, 8, 8, 8, 8, 8, 8, 8, 8, 8, 8, 8, 8, 8, 8, 8, 8, 8, 8, 8, 8, 8, 8, 8, 8, 8, 8, 8, 8, 8, 8, 8, 8, 8, 8, 8, 8, 8, 8, 8, 8, 8, 8, 8, 8, 8, 8, 8, 8, 8, 8, 8, 8, 8, 8, 8, 8, 8, 8, 8, 8, 8, 8, 8, 8, 8, 8, 8, 8, 8, 8, 8, 8, 8, 8, 8]) (Int.toNat (Go.IntKind.wrap .u8 (Int.fdiv (Int.fdiv (Int.fdiv a 4294967296) 65536) 256))))))
 else
   none
 else
   bif inB (Go.IntKind.wrap .u8 (Int.fdiv (Int.fdiv a 4294967296) 65536)) 256 then
   some (Go.IntKind.wrap .i64 (48 + Go.IntKind.wrap .i64 (byteAt (bs [0, 1, 2, 2, 3, 3, 3, 3, 4, 4, 4, 4, 4, 4, 4, 4, 5, 5, 5, 5, 5, 5, 5, 5, 5, 5, 5, 5, 5, 5, 5, 5, 6, 6, 6, 6, 6, 6, 6, 6, 6, 6, 6, 6, 6, 6, 6, 6, 6, 6, 6, 6, 6, 6, 6, 6, 6, 6, 6, 6, 6, 6, 6, 6, 7, 7, 7, 7, 7, 7, 7, 7, 7, 7, 7, 7, 7, 7, 7, 7, 7, 7, 7, 7, 7, 7, 7, 7, 7, 7, 7, 7, 7, 7, 7, 7, 7, 7, 7, 7, 7, 7, 7, 7, 7, 7, 7, 7, 7, 7, 7, 7, 7, 7, 7, 7, 7, 7, 7, 7, 7, 7, 7, 7, 7, 7, 7, 7, 8, 8, 8, 8, 8, 8, 8, 8, 8, 8, 8, 8, 8, 8, 8, 8, 8, 8, 8, 8, 8, 8, 8, 8, 8, 8, 8, 8, 8, 8, 8, 8, 8, 8, 8, 8, 8, 8, 8, 8, 8, 8, 8, 8, 8, 8, 8, 8, 8, 8, 8, 8, 8, 8, 8, 8, 8, 8, 8, 8, 8, 8, 8, 8, 8, 8, 8, 8, 8, 8, 8, 8, 8, 8, 8, 8, 8, 8, 8, 8, 8, 8, 8, 8, 8, 8, 8, 8, 8, 8, 8, 8, 8, 8, 8, 8, 8, 8, 8, 8, 8, 8, 8, 8, 8, 8, 8, 8, 8, 8, 8, 8, 8, 8, 8, 8, 8, 8, 8, 8, 8, 8, 8, 8, 8, 8, 8, 8]) (Int.toNat (Go.IntKind.wrap .u8 (Int.fdiv (Int.fdiv a 4294967296) 65536))))))
 else
   none
 else
   bif decide (256 ≤ Int.fdiv a 4294967296) then
   bif inB (Go.IntKind.wrap .u8 (Int.fdiv (Int.fdiv a 4294967296) 256)) 256 then
   some (Go.IntKind.wrap .i64 (40 + Go.IntKind.wrap .i64 (byteAt (bs [0, 1, 2, 2, 3, 3, 3, 3, 4, 4, 4, 4, 4, 4, 4, 4, 5, 5, 5, 5, 5, 5, 5, 5, 5, 5, 5, 5, 5, 5, 5, 5, 6, 6, 6, 6, 6, 6, 6, 6, 6, 6, 6, 6, 6, 6, 6, 6, 6, 6, 6, 6, 6, 6, 6, 6, 6, 6, 6, 6, 6, 6, 6, 6, 7, 7, 7, 7, 7, 7, 7, 7, 7, 7, 7, 7, 7, 7, 7, 7, 7, 7, 7, 7, 7, 7, 7, 7, 7, 7, 7, 7, 7, 7, 7, 7, 7, 7, 7, 7, 7, 7, 7, 7, 7, 7, 7, 7, 7, 7, 7, 7, 7, 7, 7, 7, 7, 7, 7, 7, 7, 7, 7, 7, 7, 7, 7, 7, 8, 8, 8, 8, 8, 8, 8, 8, 8, 8, 8, 8, 8, 8, 8, 8, 8, 8, 8, 8, 8, 8, 8, 8, 8, 8, 8, 8, 8, 8, 8, 8, 8, 8, 8, 8, 8, 8, 8, 8, 8, 8, 8, 8, 8, 8, 8, 8, 8, 8, 8, 8, 8, 8, 8, 8, 8, 8, 8, 8, 8, 8, 8, 8, 8, 8, 8, 8, 8, 8, 8, 8, 8, 8, 8, 8, 8, 8, 8, 8, 8, 8, 8, 8, 8, 8, 8, 8, 8, 8, 8, 8, 8, 8, 8, 8, 8, 8, 8, 8, 8, 8, 8, 8, 8, 8, 8, 8, 8, 8, 8, 8, 8, 8, 8, 8, 8, 8, 8, 8, 8, 8, 8, 8, 8, 8, 8, 8]) (Int.toNat (Go.IntKind.wrap .u8 (Int.fdiv (Int.fdiv a 4294967296) 256))))))
 else
   none
 else
   bif inB (Go.IntKind.wrap .u8 (Int.fdiv a 4294967296)) 256 then
   some (Go.IntKind.wrap .i64 (32 + Go.IntKind.wrap .i64 (byteAt (bs [0, 1, 2, 2, 3, 3, 3, 3, 4, 4, 4, 4, 4, 4, 4, 4, 5, 5, 5, 5, 5, 5, 5, 5, 5, 5, 5, 5, 5, 5, 5, 5, 6, 6, 6, 6, 6, 6, 6, 6, 6, 6, 6, 6, 6, 6, 6, 6, 6, 6, 6, 6, 6, 6, 6, 6, 6, 6, 6, 6, 6, 6, 6, 6, 7, 7, 7, 7, 7, 7, 7, 7, 7, 7, 7, 7, 7, 7, 7, 7, 7, 7, 7, 7, 7, 7, 7, 7, 7, 7, 7, 7, 7, 7, 7, 7, 7, 7, 7, 7, 7, 7, 7, 7, 7, 7, 7, 7, 7, 7, 7, 7, 7, 7, 7, 7, 7, 7, 7, 7, 7, 7, 7, 7, 7, 7, 7, 7, 8, 8, 8, 8, 8, 8, 8, 8, 8, 8, 8, 8, 8, 8, 8, 8, 8, 8, 8, 8, 8, 8, 8, 8, 8, 8, 8, 8, 8, 8, 8, 8, 8, 8, 8, 8, 8, 8, 8, 8, 8, 8, 8, 8, 8, 8, 8, 8, 8, 8, 8, 8, 8, 8, 8, 8, 8, 8, 8, 8, 8, 8, 8, 8, 8, 8, 8, 8, 8, 8, 8, 8, 8, 8, 8, 8, 8, 8, 8, 8, 8, 8, 8, 8, 8, 8, 8, 8, 8, 8, 8, 8, 8, 8, 8, 8, 8, 8, 8, 8, 8, 8, 8, 8, 8, 8, 8, 8, 8, 8, 8, 8, 8, 8, 8, 8, 8, 8, 8, 8, 8, 8, 8, 8, 8, 8, 8, 8]) (Int.toNat (Go.IntKind.wrap .u8 (Int.fdiv a 4294967296))))))
 else
   none
 else
   bif decide (65536 ≤ a) then
   bif decide (256 ≤ Int.fdiv a 65536) then
   bif inB (Go.IntKind.wrap .u8 (Int.fdiv (Int.fdiv a 65536) 256)) 256 then
   some (Go.IntKind.wrap .i64 (24 + Go.IntKind.wrap .i64 (byteAt (bs [0, 1, 2, 2, 3, 3, 3, 3, 4, 4, 4, 4, 4, 4, 4, 4, 5, 5, 5, 5, 5, 5, 5, 5, 5, 5, 5, 5, 5, 5, 5, 5, 6, 6, 6, 6, 6, 6, 6, 6, 6, 6, 6, 6, 6, 6, 6, 6, 6, 6, 6, 6, 6, 6, 6, 6, 6, 6, 6, 6, 6, 6, 6, 6, 7, 7, 7, 7, 7, 7, 7, 7, 7, 7, 7, 7, 7, 7, 7, 7, 7, 7, 7, 7, 7, 7, 7, 7, 7, 7, 7, 7, 7, 7, 7, 7, 7, 7, 7, 7, 7, 7, 7, 7, 7, 7, 7, 7, 7, 7, 7, 7, 7, 7, 7, 7, 7, 7, 7, 7, 7, 7, 7, 7, 7, 7, 7, 7, 8, 8, 8, 8, 8, 8, 8, 8, 8, 8, 8, 8, 8, 8, 8, 8, 8, 8, 8, 8, 8, 8, 8, 8, 8, 8, 8, 8, 8, 8, 8, 8, 8, 8, 8, 8, 8, 8, 8, 8, 8, 8, 8, 8, 8, 8, 8, 8, 8, 8, 8, 8, 8, 8, 8, 8, 8, 8, 8, 8, 8, 8, 8, 8, 8, 8, 8, 8, 8, 8, 8, 8, 8, 8, 8, 8, 8, 8, 8, 8, 8, 8, 8, 8, 8, 8, 8, 8, 8, 8, 8, 8, 8, 8, 8, 8, 8, 8, 8, 8, 8, 8, 8, 8, 8, 8, 8, 8, 8, 8, 8, 8, 8, 8, 8, 8, 8, 8, 8, 8, 8, 8, 8, 8, 8, 8, 8, 8]) (Int.toNat (Go.IntKind.wrap .u8 (Int.fdiv (Int.fdiv a 65536) 256))))))
 else
   none
 else
   bif inB (Go.IntKind.wrap .u8 (Int.fdiv a 65536)) 256 then
   some (Go.IntKind.wrap .i64 (16 + Go.IntKind.wrap .i64 (byteAt (bs [0, 1, 2, 2, 3, 3, 3, 3, 4, 4, 4, 4, 4, 4, 4, 4, 5, 5, 5, 5, 5, 5, 5, 5, 5, 5, 5, 5, 5, 5, 5, 5, 6, 6, 6, 6, 6, 6, 6, 6, 6, 6, 6, 6, 6, 6, 6, 6, 6, 6, 6, 6, 6, 6, 6, 6, 6, 6, 6, 6, 6, 6, 6, 6, 7, 7, 7, 7, 7, 7, 7, 7, 7, 7, 7, 7, 7, 7, 7, 7, 7, 7, 7, 7, 7, 7, 7, 7, 7, 7, 7, 7, 7, 7, 7, 7, 7, 7, 7, 7, 7, 7, 7, 7, 7, 7, 7, 7, 7, 7, 7, 7, 7, 7, 7, 7, 7, 7, 7, 7, 7, 7, 7, 7, 7, 7, 7, 7, 8, 8, 8, 8, 8, 8, 8, 8, 8, 8, 8, 8, 8, 8, 8, 8, 8, 8, 8, 8, 8, 8, 8, 8, 8, 8, 8, 8, 8, 8, 8, 8, 8, 8, 8, 8, 8, 8, 8, 8, 8, 8, 8, 8, 8, 8, 8, 8, 8, 8, 8, 8, 8, 8, 8, 8, 8, 8, 8, 8, 8, 8, 8, 8, 8, 8, 8, 8, 8, 8, 8, 8, 8, 8, 8, 8, 8, 8, 8, 8, 8, 8, 8, 8, 8, 8, 8, 8, 8, 8, 8, 8, 8, 8, 8, 8, 8, 8, 8, 8, 8, 8, 8, 8, 8, 8, 8, 8, 8, 8, 8, 8, 8, 8, 8, 8, 8, 8, 8, 8, 8, 8, 8, 8, 8, 8, 8, 8]) (Int.toNat (Go.IntKind.wrap .u8 (Int.fdiv a 65536))))))
 else
   none
 else
   bif decide (256 ≤ a) then
   bif inB (Go.IntKind.wrap .u8 (Int.fdiv a 256)) 256 then
   some (Go.IntKind.wrap .i64 (8 + Go.IntKind.wrap .i64 (byteAt (bs [0, 1, 2, 2, 3, 3, 3, 3, 4, 4, 4, 4, 4, 4, 4, 4, 5, 5, 5, 5, 5, 5, 5, 5, 5, 5, 5, 5, 5, 5, 5, 5, 6, 6, 6, 6, 6, 6, 6, 6, 6, 6, 6, 6, 6, 6, 6, 6, 6, 6, 6, 6, 6, 6, 6, 6, 6, 6, 6, 6, 6, 6, 6, 6, 7, 7, 7, 7, 7, 7, 7, 7, 7, 7, 7, 7, 7, 7, 7, 7, 7, 7, 7, 7, 7, 7, 7, 7, 7, 7, 7, 7, 7, 7, 7, 7, 7, 7, 7, 7, 7, 7, 7, 7, 7, 7, 7, 7, 7, 7, 7, 7, 7, 7, 7, 7, 7, 7, 7, 7, 7, 7, 7, 7, 7, 7, 7, 7, 8, 8, 8, 8, 8, 8, 8, 8, 8, 8, 8, 8, 8, 8, 8, 8, 8, 8, 8, 8, 8, 8, 8, 8, 8, 8, 8, 8, 8, 8, 8, 8, 8, 8, 8, 8, 8, 8, 8, 8, 8, 8, 8, 8, 8, 8, 8, 8, 8, 8, 8, 8, 8, 8, 8, 8, 8, 8, 8, 8, 8, 8, 8, 8, 8, 8, 8, 8, 8, 8, 8, 8, 8, 8, 8, 8, 8, 8, 8, 8, 8, 8, 8, 8, 8, 8, 8, 8, 8, 8, 8, 8, 8, 8, 8, 8, 8, 8, 8, 8, 8, 8, 8, 8, 8, 8, 8, 8, 8, 8, 8, 8, 8, 8, 8, 8, 8, 8, 8, 8, 8, 8, 8, 8, 8, 8, 8, 8]) (Int.toNat (Go.IntKind.wrap .u8 (Int.fdiv a 256))))))
 else
   none
 else
   bif inB (Go.IntKind.wrap .u8 a) 256 then
   some (Go.IntKind.wrap .i64 (0 + Go.IntKind.wrap .i64 (byteAt (bs [0, 1, 2, 2, 3, 3, 3, 3, 4, 4, 4, 4, 4, 4, 4, 4, 5, 5, 5, 5, 5, 5, 5, 5, 5, 5, 5, 5, 5, 5, 5, 5, 6, 6, 6, 6, 6, 6, 6, 6, 6, 6, 6, 6, 6, 6, 6, 6, 6, 6, 6, 6, 6, 6, 6, 6, 6, 6, 6, 6, 6, 6, 6, 6, 7, 7, 7, 7, 7, 7, 7, 7, 7, 7, 7, 7, 7, 7, 7, 7, 7, 7, 7, 7, 7, 7, 7, 7, 7, 7, 7, 7, 7, 7, 7, 7, 7, 7, 7, 7, 7, 7, 7, 7, 7, 7, 7, 7, 7, 7, 7, 7, 7, 7, 7, 7, 7, 7, 7, 7, 7, 7, 7, 7, 7, 7, 7, 7, 8, 8, 8, 8, 8, 8, 8, 8, 8, 8, 8, 8, 8, 8, 8, 8, 8, 8, 8, 8, 8, 8, 8, 8, 8, 8, 8, 8, 8, 8, 8, 8, 8, 8, 8, 8, 8, 8, 8, 8, 8, 8, 8, 8, 8, 8, 8, 8, 8, 8, 8, 8, 8, 8, 8, 8, 8, 8, 8, 8, 8, 8, 8, 8, 8, 8, 8, 8, 8, 8, 8, 8, 8, 8, 8, 8, 8, 8, 8, 8, 8, 8, 8, 8, 8, 8, 8, 8, 8, 8, 8, 8, 8, 8, 8, 8, 8, 8, 8, 8, 8, 8, 8, 8, 8, 8, 8, 8, 8, 8, 8, 8, 8, 8, 8, 8, 8, 8, 8, 8, 8, 8, 8, 8, 8, 8, 8, 8]) (Int.toNat (Go.IntKind.wrap .u8 a)))))
 else
   none
noncomputable def S.len64_gk {R : Type} (a : Int) (k : AVal → List Blk → Option R) : (Int) → Option R := (fun v : Int => k (.int .i64 v) [])
theorem S.len64_v {R : Type} (a : Int) (k : AVal → List Blk → Option R) : fnEval tis F95 0 G90 Try.f95 [.int .u64 a] [] k = oK (fun v : Int => k (.int .i64 v) []) (S.len64 a) :=
  (S.len64_k a k).trans (bif_lift (f := (oK (S.len64_gk a k))) (bif_lift (f := (oK (S.len64_gk a k))) (bif_lift (f := (oK (S.len64_gk a k))) (bif_lift (f := (oK (S.len64_gk a k))) rfl rfl) (bif_lift (f := (oK (S.len64_gk a k))) rfl rfl)) (bif_lift (f := (oK (S.len64_gk a k))) (bif_lift (f := (oK (S.len64_gk a k))) rfl rfl) (bif_lift (f := (oK (S.len64_gk a k))) rfl rfl))) (bif_lift (f := (oK (S.len64_gk a k))) (bif_lift (f := (oK (S.len64_gk a k))) (bif_lift (f := (oK (S.len64_gk a k))) rfl rfl) (bif_lift (f := (oK (S.len64_gk a k))) rfl rfl)) (bif_lift (f := (oK (S.len64_gk a k))) (bif_lift (f := (oK (S.len64_gk a k))) rfl rfl) (bif_lift (f := (oK (S.len64_gk a k))) rfl rfl))))
def H95 : Hnd := fun R args σ k => match args, σ with
  | [.int .u64 a], [] => oK (fun v : Int => k (.int .i64 v) []) (S.len64 a)
  | _, _ => none
theorem H95_ok : HndOk Try.prog 95 H95 := hnd_ok tis tisOk mixOk G90_ok F95 Try.func95 rfl (by
  intro R args σ k r h
  unfold H95 at h
  split at h
  · rename_i a; exact ⟨0, (S.len64_v a _).trans h⟩
  · cases h)
def G95 : Env := Env.add 95 H95 G90
theorem G95_ok : EnvOk Try.prog G95 := envAdd_ok H95_ok G90_ok

/-! math/bits.LeadingZeros64 -/
def F94 : FCfg := ⟨keepAt [(0, [0]), (1, [2])], loopAt [], []⟩
theorem S.lz64_k {R : Type} (a : Int) (k : AVal → List Blk → Option R) : fnEval tis F94 0 G95 Try.f94 [.int .u64 a] [] k =
  ((optK (S.len64 a) fun o2 =>
   k (.int .i64 (Go.IntKind.wrap .i64 (64 - o2))) ([]))) := by kernel_rfl
def S.lz64 (a : Int) : Option (Int) :=
  (optK (S.len64 a) fun o2 =>
   some (Go.IntKind.wrap .i64 (64 - o2)))
noncomputable def S.lz64_gk {R : Type} (a : Int) (k : AVal → List Blk → Option R) : (Int) → Option R := (fun v : Int => k (.int .i64 v) [])
theorem S.lz64_v {R : Type} (a : Int) (k : AVal → List Blk → Option R) : fnEval tis F94 0 G95 Try.f94 [.int .u64 a] [] k = oK (fun v : Int => k (.int .i64 v) []) (S.lz64 a) :=
  (S.lz64_k a k).trans (opt_lift fun o2 => rfl)
def H94 : Hnd := fun R args σ k => match args, σ with
  | [.int .u64 a], [] => oK (fun v : Int => k (.int .i64 v) []) (S.lz64 a)
  | _, _ => none
theorem H94_ok : HndOk Try.prog 94 H94 := hnd_ok tis tisOk mixOk G95_ok F94 Try.func94 rfl (by
  intro R args σ k r h
  unfold H94 at h
  split at h
  · rename_i a; exact ⟨0, (S.lz64_v a _).trans h⟩
  · cases h)
def G94 : Env := Env.add 94 H94 G95
theorem G94_ok : EnvOk Try.prog G94 := envAdd_ok H94_ok G95_ok

/-! math/bits.Div64 -/
def F92 : FCfg := ⟨keepAt [(0, [0, 1, 2]), (1, [0, 1, 2, 20]), (2, [0, 1, 2]), (3, [0, 1, 2, 24]), (4, [0, 1, 2]), (5, [0, 1, 2, 27]), (6, [6, 7]), (7, [0, 1, 2, 8]), (8, [0, 1, 2, 8]), (9, [0, 1, 2, 8, 9]), (10, [0, 1, 2, 8, 9, 10]), (11, [1, 2, 8, 9, 10, 11]), (12, [2, 8, 9, 10, 11, 12]), (13, [2, 8, 9, 10, 11, 12, 13]), (14, [2, 8, 9, 10, 11, 13, 14]), (15, [2, 8, 9, 10, 11, 13, 14, 15]), (16, [2, 8, 9, 10, 11, 13, 14, 15, 16]), (17, [2, 8, 9, 10, 11, 13, 14, 15, 16, 78]), (18, [2, 8, 9, 10, 11, 13, 14, 15, 16]), (19, [2, 8, 9, 10, 11, 13, 14, 15, 16]), (20, [2, 8, 9, 10, 11, 13, 14, 15, 16, 85]), (21, [2, 8, 9, 10, 14, 15, 17]), (22, [2, 8, 9, 10, 14, 15, 17, 18]), (23, [2, 8, 9, 10, 14, 15, 16, 17, 18]), (24, [2, 8, 9, 10, 14, 15, 16, 17, 18, 113]), (25, [2, 8, 9, 10, 14, 15, 16, 17, 18]), (26, [2, 8, 9, 10, 14, 15, 16, 17, 18]), (27, [2, 8, 9, 10, 14, 15, 16, 17, 18, 120]), (28, [6, 7])], loopAt [(17, [2, 8, 9, 10, 11, 13, 14, 15, 16], []), (24, [2, 8, 9, 10, 14, 15, 16, 17, 18], [])], []⟩
noncomputable def C_div64 (fu : Nat) (hi lo b : Int) : Cfg := Cfg.of tis F92 fu (List.length ([] : List Blk)) Try.f92.ntmps
noncomputable def S.div64_b0 : Code := codeAt (bodyOf Try.f92) [1, 1, 1, 1, 1, 1, 1, 1, 1, 1, 1, 1, 1, 1, 0, 0, 0]
noncomputable def S.div64_b1 : Code := codeAt (bodyOf Try.f92) [1, 1, 1, 1, 1, 1, 1, 1, 1, 1, 1, 1, 1, 1, 1, 1, 1, 1, 0, 0, 0]
noncomputable def S.div64_s0 (hi lo b : Int) (y0 : Int) (y1 : Int) (y2 : Int) (y3 : Int) (y4 : Int) (y5 : Int) (y6 : Int) (y7 : Int) (y8 : Int) : St := ⟨[(2, (.int .u64 (y0))), (8, (.int .u64 (y1))), (9, (.int .u64 (y2))), (10, (.int .u64 (y3))), (11, (.int .u64 (y4))), (13, (.int .u64 (y5))), (14, (.int .u64 (y6))), (15, (.int .u64 (y7))), (16, (.int .u64 (y8)))], []⟩
noncomputable def S.div64_x0_0 (hi lo b : Int) (z0 : Int) (z1 : Int) (z2 : Int) (z3 : Int) (z4 : Int) (z5 : Int) (z6 : Int) (z7 : Int) (z8 : Int) (z9 : Bool) : St := ⟨[(2, (.int .u64 (z0))), (8, (.int .u64 (z1))), (9, (.int .u64 (z2))), (10, (.int .u64 (z3))), (11, (.int .u64 (z4))), (13, (.int .u64 (z5))), (14, (.int .u64 (z6))), (15, (.int .u64 (z7))), (16, (.int .u64 (z8))), (85, (.bool (z9)))], []⟩
noncomputable def S.div64_x0_1 (hi lo b : Int) (z0 : Int) (z1 : Int) (z2 : Int) (z3 : Int) (z4 : Int) (z5 : Int) (z6 : Int) (z7 : Int) (z8 : Int) (z9 : Bool) : St := ⟨[(2, (.int .u64 (z0))), (8, (.int .u64 (z1))), (9, (.int .u64 (z2))), (10, (.int .u64 (z3))), (11, (.int .u64 (z4))), (13, (.int .u64 (z5))), (14, (.int .u64 (z6))), (15, (.int .u64 (z7))), (16, (.int .u64 (z8))), (78, (.bool (z9)))], []⟩
noncomputable def S.div64_s1 (hi lo b : Int) (y0 : Int) (y1 : Int) (y2 : Int) (y3 : Int) (y4 : Int) (y5 : Int) (y6 : Int) (y7 : Int) (y8 : Int) : St := ⟨[(2, (.int .u64 (y0))), (8, (.int .u64 (y1))), (9, (.int .u64 (y2))), (10, (.int .u64 (y3))), (14, (.int .u64 (y4))), (15, (.int .u64 (y5))), (16, (.int .u64 (y6))), (17, (.int .u64 (y7))), (18, (.int .u64 (y8)))], []⟩
noncomputable def S.div64_x1_0 (hi lo b : Int) (z0 : Int) (z1 : Int) (z2 : Int) (z3 : Int) (z4 : Int) (z5 : Int) (z6 : Int) (z7 : Int) (z8 : Int) (z9 : Bool) : St := ⟨[(2, (.int .u64 (z0))), (8, (.int .u64 (z1))), (9, (.int .u64 (z2))), (10, (.int .u64 (z3))), (14, (.int .u64 (z4))), (15, (.int .u64 (z5))), (16, (.int .u64 (z6))), (17, (.int .u64 (z7))), (18, (.int .u64 (z8))), (120, (.bool (z9)))], []⟩
noncomputable def S.div64_x1_1 (hi lo b : Int) (z0 : Int) (z1 : Int) (z2 : Int) (z3 : Int) (z4 : Int) (z5 : Int) (z6 : Int) (z7 : Int) (z8 : Int) (z9 : Bool) : St := ⟨[(2, (.int .u64 (z0))), (8, (.int .u64 (z1))), (9, (.int .u64 (z2))), (10, (.int .u64 (z3))), (14, (.int .u64 (z4))), (15, (.int .u64 (z5))), (16, (.int .u64 (z6))), (17, (.int .u64 (z7))), (18, (.int .u64 (z8))), (113, (.bool (z9)))], []⟩
noncomputable def S.div64_g0 {R : Type} (hi lo b : Int) (K : Ex → St → Option R) : ((Int × Int × Int × Int × Int × Int × Int × Int × Int × Bool) ⊕ (Int × Int × Int × Int × Int × Int × Int × Int × Int × Bool)) → Option R := (Sum.elim (fun z : Int × Int × Int × Int × Int × Int × Int × Int × Int × Bool => K (Ex.exit 0) (S.div64_x0_0 hi lo b (z.1) (z.2.1) (z.2.2.1) (z.2.2.2.1) (z.2.2.2.2.1) (z.2.2.2.2.2.1) (z.2.2.2.2.2.2.1) (z.2.2.2.2.2.2.2.1) (z.2.2.2.2.2.2.2.2.1) (z.2.2.2.2.2.2.2.2.2))) (fun z : Int × Int × Int × Int × Int × Int × Int × Int × Int × Bool => K (Ex.exit 0) (S.div64_x0_1 hi lo b (z.1) (z.2.1) (z.2.2.1) (z.2.2.2.1) (z.2.2.2.2.1) (z.2.2.2.2.2.1) (z.2.2.2.2.2.2.1) (z.2.2.2.2.2.2.2.1) (z.2.2.2.2.2.2.2.2.1) (z.2.2.2.2.2.2.2.2.2))))
noncomputable def S.div64_g1 {R : Type} (hi lo b : Int) (K : Ex → St → Option R) : ((Int × Int × Int × Int × Int × Int × Int × Int × Int × Bool) ⊕ (Int × Int × Int × Int × Int × Int × Int × Int × Int × Bool)) → Option R := (Sum.elim (fun z : Int × Int × Int × Int × Int × Int × Int × Int × Int × Bool => K (Ex.exit 2) (S.div64_x1_0 hi lo b (z.1) (z.2.1) (z.2.2.1) (z.2.2.2.1) (z.2.2.2.2.1) (z.2.2.2.2.2.1) (z.2.2.2.2.2.2.1) (z.2.2.2.2.2.2.2.1) (z.2.2.2.2.2.2.2.2.1) (z.2.2.2.2.2.2.2.2.2))) (fun z : Int × Int × Int × Int × Int × Int × Int × Int × Int × Bool => K (Ex.exit 2) (S.div64_x1_1 hi lo b (z.1) (z.2.1) (z.2.2.1) (z.2.2.2.1) (z.2.2.2.2.1) (z.2.2.2.2.2.1) (z.2.2.2.2.2.2.1) (z.2.2.2.2.2.2.2.1) (z.2.2.2.2.2.2.2.2.1) (z.2.2.2.2.2.2.2.2.2))))
noncomputable def S.div64_gk {R : Type} (hi lo b : Int) (k : AVal → List Blk → Option R) : (Int × Int) → Option R := (fun v : Int × Int => k (.tuple [(.int .u64 v.1), (.int .u64 v.2)]) [])
theorem S.div64_l1_k {R : Type} (fu : Nat) (hi lo b : Int) (n : Nat) (K : Ex → St → Option R) (y0 : Int) (y1 : Int) (y2 : Int) (y3 : Int) (y4 : Int) (y5 : Int) (y6 : Int) (y7 : Int) (y8 : Int) : loopRun (C_div64 fu hi lo b) G94 S.div64_b1 (n + 1) (S.div64_s1 hi lo b (y0) (y1) (y2) (y3) (y4) (y5) (y6) (y7) (y8)) K =
  (bif decide (4294967296 ≤ y8) then
   bif decide (4294967296 ≤ Go.IntKind.wrap .u64 (y6 + y2)) then
   K (Ex.exit 2) (S.div64_x1_0 hi lo b (y0) (y1) (y2) (y3) (y4) (y5) (Go.IntKind.wrap .u64 (y6 + y2)) (y7) (Go.IntKind.wrap .u64 (y8 - 1)) (decide (4294967296 ≤ Go.IntKind.wrap .u64 (y6 + y2))))
 else
   loopRun (C_div64 fu hi lo b) G94 S.div64_b1 n (S.div64_s1 hi lo b (y0) (y1) (y2) (y3) (y4) (y5) (Go.IntKind.wrap .u64 (y6 + y2)) (y7) (Go.IntKind.wrap .u64 (y8 - 1))) K
 else
   bif decide (Go.IntKind.wrap .u64 (Go.IntKind.wrap .u64 (4294967296 * y6) + y4) < Go.IntKind.wrap .u64 (y8 * y3)) then
   bif decide (4294967296 ≤ Go.IntKind.wrap .u64 (y6 + y2)) then
   K (Ex.exit 2) (S.div64_x1_0 hi lo b (y0) (y1) (y2) (y3) (y4) (y5) (Go.IntKind.wrap .u64 (y6 + y2)) (y7) (Go.IntKind.wrap .u64 (y8 - 1)) (decide (4294967296 ≤ Go.IntKind.wrap .u64 (y6 + y2))))
 else
   loopRun (C_div64 fu hi lo b) G94 S.div64_b1 n (S.div64_s1 hi lo b (y0) (y1) (y2) (y3) (y4) (y5) (Go.IntKind.wrap .u64 (y6 + y2)) (y7) (Go.IntKind.wrap .u64 (y8 - 1))) K
 else
   K (Ex.exit 2) (S.div64_x1_1 hi lo b (y0) (y1) (y2) (y3) (y4) (y5) (y6) (y7) (y8) (decide (Go.IntKind.wrap .u64 (Go.IntKind.wrap .u64 (4294967296 * y6) + y4) < Go.IntKind.wrap .u64 (y8 * y3))))) := by kernel_rfl
def S.div64_l1 (fu : Nat) (hi lo b : Int) : Nat → (Int) → (Int) → (Int) → (Int) → (Int) → (Int) → (Int) → (Int) → (Int) → Option ((Int × Int × Int × Int × Int × Int × Int × Int × Int × Bool) ⊕ (Int × Int × Int × Int × Int × Int × Int × Int × Int × Bool))
  | 0, _, _, _, _, _, _, _, _, _ => none
  | n + 1, y0, y1, y2, y3, y4, y5, y6, y7, y8 =>
    bif decide (4294967296 ≤ y8) then
   bif decide (4294967296 ≤ Go.IntKind.wrap .u64 (y6 + y2)) then
   some (.inl (y0, y1, y2, y3, y4, y5, Go.IntKind.wrap .u64 (y6 + y2), y7, Go.IntKind.wrap .u64 (y8 - 1), decide (4294967296 ≤ Go.IntKind.wrap .u64 (y6 + y2))))
 else
   (S.div64_l1 fu hi lo b n) (y0) (y1) (y2) (y3) (y4) (y5) (Go.IntKind.wrap .u64 (y6 + y2)) (y7) (Go.IntKind.wrap .u64 (y8 - 1))
 else
   bif decide (Go.IntKind.wrap .u64 (Go.IntKind.wrap .u64 (4294967296 * y6) + y4) < Go.IntKind.wrap .u64 (y8 * y3)) then
   bif decide (4294967296 ≤ Go.IntKind.wrap .u64 (y6 + y2)) then
   some (.inl (y0, y1, y2, y3, y4, y5, Go.IntKind.wrap .u64 (y6 + y2), y7, Go.IntKind.wrap .u64 (y8 - 1), decide (4294967296 ≤ Go.IntKind.wrap .u64 (y6 + y2))))
 else
   (S.div64_l1 fu hi lo b n) (y0) (y1) (y2) (y3) (y4) (y5) (Go.IntKind.wrap .u64 (y6 + y2)) (y7) (Go.IntKind.wrap .u64 (y8 - 1))
 else
   some (.inr (y0, y1, y2, y3, y4, y5, y6, y7, y8, decide (Go.IntKind.wrap .u64 (Go.IntKind.wrap .u64 (4294967296 * y6) + y4) < Go.IntKind.wrap .u64 (y8 * y3))))
theorem S.div64_l1_v {R : Type} (fu : Nat) (hi lo b : Int) (K : Ex → St → Option R) : ∀ (n : Nat) (y0 : Int) (y1 : Int) (y2 : Int) (y3 : Int) (y4 : Int) (y5 : Int) (y6 : Int) (y7 : Int) (y8 : Int), loopRun (C_div64 fu hi lo b) G94 S.div64_b1 n (S.div64_s1 hi lo b (y0) (y1) (y2) (y3) (y4) (y5) (y6) (y7) (y8)) K = oK (β := (Int × Int × Int × Int × Int × Int × Int × Int × Int × Bool) ⊕ (Int × Int × Int × Int × Int × Int × Int × Int × Int × Bool)) (S.div64_g1 hi lo b K) (S.div64_l1 fu hi lo b n y0 y1 y2 y3 y4 y5 y6 y7 y8)
  | 0, _, _, _, _, _, _, _, _, _ => rfl
  | n + 1, y0, y1, y2, y3, y4, y5, y6, y7, y8 => (S.div64_l1_k fu hi lo b n K y0 y1 y2 y3 y4 y5 y6 y7 y8).trans (bif_lift (f := (oK (S.div64_g1 hi lo b K))) (bif_lift (f := (oK (S.div64_g1 hi lo b K))) rfl (S.div64_l1_v fu hi lo b K n (y0) (y1) (y2) (y3) (y4) (y5) (Go.IntKind.wrap .u64 (y6 + y2)) (y7) (Go.IntKind.wrap .u64 (y8 - 1)))) (bif_lift (f := (oK (S.div64_g1 hi lo b K))) (bif_lift (f := (oK (S.div64_g1 hi lo b K))) rfl (S.div64_l1_v fu hi lo b K n (y0) (y1) (y2) (y3) (y4) (y5) (Go.IntKind.wrap .u64 (y6 + y2)) (y7) (Go.IntKind.wrap .u64 (y8 - 1)))) rfl))
theorem S.div64_a1_1_k {R : Type} (fu : Nat) (hi lo b : Int) (z0 : Int) (z1 : Int) (z2 : Int) (z3 : Int) (z4 : Int) (z5 : Int) (z6 : Int) (z7 : Int) (z8 : Int) (z9 : Bool) (k : AVal → List Blk → Option R) : contOf (C_div64 fu hi lo b) G94 (bodyOf Try.f92) [1, 1, 1, 1, 1, 1, 1, 1, 1, 1, 1, 1, 1, 1, 1, 1, 1, 1, 0, 0] (retK tis F92 Try.f92 (List.length ([] : List Blk)) k) (Ex.exit 2) (S.div64_x1_1 hi lo b (z0) (z1) (z2) (z3) (z4) (z5) (z6) (z7) (z8) (z9)) =
  (bif decide (z1 < 0) then
   none
 else
   k (.tuple [.int .u64 (Go.IntKind.wrap .u64 (Go.IntKind.wrap .u64 (z5 * 4294967296) + z8)), .int .u64 (Int.fdiv (Go.IntKind.wrap .u64 (Go.IntKind.wrap .u64 (Go.IntKind.wrap .u64 (z7 * 4294967296) + z4) - Go.IntKind.wrap .u64 (z8 * z0))) (2 ^ Min.min (Int.toNat z1) 64))]) ([])) := by kernel_rfl
def S.div64_a1_1 (fu : Nat) (hi lo b : Int) (z0 : Int) (z1 : Int) (z2 : Int) (z3 : Int) (z4 : Int) (z5 : Int) (z6 : Int) (z7 : Int) (z8 : Int) (z9 : Bool) : Option (Int × Int) :=
  bif decide (z1 < 0) then
   none
 else
   some (Go.IntKind.wrap .u64 (Go.IntKind.wrap .u64 (z5 * 4294967296) + z8), Int.fdiv (Go.IntKind.wrap .u64 (Go.IntKind.wrap .u64 (Go.IntKind.wrap .u64 (z7 * 4294967296) + z4) - Go.IntKind.wrap .u64 (z8 * z0))) (2 ^ Min.min (Int.toNat z1) 64))
theorem S.div64_a1_1_v {R : Type} (fu : Nat) (hi lo b : Int) (z0 : Int) (z1 : Int) (z2 : Int) (z3 : Int) (z4 : Int) (z5 : Int) (z6 : Int) (z7 : Int) (z8 : Int) (z9 : Bool) (k : AVal → List Blk → Option R) : contOf (C_div64 fu hi lo b) G94 (bodyOf Try.f92) [1, 1, 1, 1, 1, 1, 1, 1, 1, 1, 1, 1, 1, 1, 1, 1, 1, 1, 0, 0] (retK tis F92 Try.f92 (List.length ([] : List Blk)) k) (Ex.exit 2) (S.div64_x1_1 hi lo b (z0) (z1) (z2) (z3) (z4) (z5) (z6) (z7) (z8) (z9)) = oK (S.div64_gk hi lo b k) (S.div64_a1_1 fu hi lo b z0 z1 z2 z3 z4 z5 z6 z7 z8 z9) :=
  (S.div64_a1_1_k fu hi lo b z0 z1 z2 z3 z4 z5 z6 z7 z8 z9 k).trans (bif_lift (f := (oK (S.div64_gk hi lo b k))) rfl rfl)
theorem S.div64_a1_0_k {R : Type} (fu : Nat) (hi lo b : Int) (z0 : Int) (z1 : Int) (z2 : Int) (z3 : Int) (z4 : Int) (z5 : Int) (z6 : Int) (z7 : Int) (z8 : Int) (z9 : Bool) (k : AVal → List Blk → Option R) : contOf (C_div64 fu hi lo b) G94 (bodyOf Try.f92) [1, 1, 1, 1, 1, 1, 1, 1, 1, 1, 1, 1, 1, 1, 1, 1, 1, 1, 0, 0] (retK tis F92 Try.f92 (List.length ([] : List Blk)) k) (Ex.exit 2) (S.div64_x1_0 hi lo b (z0) (z1) (z2) (z3) (z4) (z5) (z6) (z7) (z8) (z9)) =
  (bif decide (z1 < 0) then
   none
 else
   k (.tuple [.int .u64 (Go.IntKind.wrap .u64 (Go.IntKind.wrap .u64 (z5 * 4294967296) + z8)), .int .u64 (Int.fdiv (Go.IntKind.wrap .u64 (Go.IntKind.wrap .u64 (Go.IntKind.wrap .u64 (z7 * 4294967296) + z4) - Go.IntKind.wrap .u64 (z8 * z0))) (2 ^ Min.min (Int.toNat z1) 64))]) ([])) := by kernel_rfl
def S.div64_a1_0 (fu : Nat) (hi lo b : Int) (z0 : Int) (z1 : Int) (z2 : Int) (z3 : Int) (z4 : Int) (z5 : Int) (z6 : Int) (z7 : Int) (z8 : Int) (z9 : Bool) : Option (Int × Int) :=
  bif decide (z1 < 0) then
   none
 else
   some (Go.IntKind.wrap .u64 (Go.IntKind.wrap .u64 (z5 * 4294967296) + z8), Int.fdiv (Go.IntKind.wrap .u64 (Go.IntKind.wrap .u64 (Go.IntKind.wrap .u64 (z7 * 4294967296) + z4) - Go.IntKind.wrap .u64 (z8 * z0))) (2 ^ Min.min (Int.toNat z1) 64))
theorem S.div64_a1_0_v {R : Type} (fu : Nat) (hi lo b : Int) (z0 : Int) (z1 : Int) (z2 : Int) (z3 : Int) (z4 : Int) (z5 : Int) (z6 : Int) (z7 : Int) (z8 : Int) (z9 : Bool) (k : AVal → List Blk → Option R) : contOf (C_div64 fu hi lo b) G94 (bodyOf Try.f92) [1, 1, 1, 1, 1, 1, 1, 1, 1, 1, 1, 1, 1, 1, 1, 1, 1, 1, 0, 0] (retK tis F92 Try.f92 (List.length ([] : List Blk)) k) (Ex.exit 2) (S.div64_x1_0 hi lo b (z0) (z1) (z2) (z3) (z4) (z5) (z6) (z7) (z8) (z9)) = oK (S.div64_gk hi lo b k) (S.div64_a1_0 fu hi lo b z0 z1 z2 z3 z4 z5 z6 z7 z8 z9) :=
  (S.div64_a1_0_k fu hi lo b z0 z1 z2 z3 z4 z5 z6 z7 z8 z9 k).trans (bif_lift (f := (oK (S.div64_gk hi lo b k))) rfl rfl)
theorem S.div64_l0_k {R : Type} (fu : Nat) (hi lo b : Int) (n : Nat) (K : Ex → St → Option R) (y0 : Int) (y1 : Int) (y2 : Int) (y3 : Int) (y4 : Int) (y5 : Int) (y6 : Int) (y7 : Int) (y8 : Int) : loopRun (C_div64 fu hi lo b) G94 S.div64_b0 (n + 1) (S.div64_s0 hi lo b (y0) (y1) (y2) (y3) (y4) (y5) (y6) (y7) (y8)) K =
  (bif decide (4294967296 ≤ y7) then
   bif decide (4294967296 ≤ Go.IntKind.wrap .u64 (y8 + y2)) then
   K (Ex.exit 0) (S.div64_x0_0 hi lo b (y0) (y1) (y2) (y3) (y4) (y5) (y6) (Go.IntKind.wrap .u64 (y7 - 1)) (Go.IntKind.wrap .u64 (y8 + y2)) (decide (4294967296 ≤ Go.IntKind.wrap .u64 (y8 + y2))))
 else
   loopRun (C_div64 fu hi lo b) G94 S.div64_b0 n (S.div64_s0 hi lo b (y0) (y1) (y2) (y3) (y4) (y5) (y6) (Go.IntKind.wrap .u64 (y7 - 1)) (Go.IntKind.wrap .u64 (y8 + y2))) K
 else
   bif decide (Go.IntKind.wrap .u64 (Go.IntKind.wrap .u64 (4294967296 * y8) + y5) < Go.IntKind.wrap .u64 (y7 * y3)) then
   bif decide (4294967296 ≤ Go.IntKind.wrap .u64 (y8 + y2)) then
   K (Ex.exit 0) (S.div64_x0_0 hi lo b (y0) (y1) (y2) (y3) (y4) (y5) (y6) (Go.IntKind.wrap .u64 (y7 - 1)) (Go.IntKind.wrap .u64 (y8 + y2)) (decide (4294967296 ≤ Go.IntKind.wrap .u64 (y8 + y2))))
 else
   loopRun (C_div64 fu hi lo b) G94 S.div64_b0 n (S.div64_s0 hi lo b (y0) (y1) (y2) (y3) (y4) (y5) (y6) (Go.IntKind.wrap .u64 (y7 - 1)) (Go.IntKind.wrap .u64 (y8 + y2))) K
 else
   K (Ex.exit 0) (S.div64_x0_1 hi lo b (y0) (y1) (y2) (y3) (y4) (y5) (y6) (y7) (y8) (decide (Go.IntKind.wrap .u64 (Go.IntKind.wrap .u64 (4294967296 * y8) + y5) < Go.IntKind.wrap .u64 (y7 * y3))))) := by kernel_rfl
def S.div64_l0 (fu : Nat) (hi lo b : Int) : Nat → (Int) → (Int) → (Int) → (Int) → (Int) → (Int) → (Int) → (Int) → (Int) → Option ((Int × Int × Int × Int × Int × Int × Int × Int × Int × Bool) ⊕ (Int × Int × Int × Int × Int × Int × Int × Int × Int × Bool))
  | 0, _, _, _, _, _, _, _, _, _ => none
  | n + 1, y0, y1, y2, y3, y4, y5, y6, y7, y8 =>
    bif decide (4294967296 ≤ y7) then
   bif decide (4294967296 ≤ Go.IntKind.wrap .u64 (y8 + y2)) then
   some (.inl (y0, y1, y2, y3, y4, y5, y6, Go.IntKind.wrap .u64 (y7 - 1), Go.IntKind.wrap .u64 (y8 + y2), decide (4294967296 ≤ Go.IntKind.wrap .u64 (y8 + y2))))
 else
   (S.div64_l0 fu hi lo b n) (y0) (y1) (y2) (y3) (y4) (y5) (y6) (Go.IntKind.wrap .u64 (y7 - 1)) (Go.IntKind.wrap .u64 (y8 + y2))
 else
   bif decide (Go.IntKind.wrap .u64 (Go.IntKind.wrap .u64 (4294967296 * y8) + y5) < Go.IntKind.wrap .u64 (y7 * y3)) then
   bif decide (4294967296 ≤ Go.IntKind.wrap .u64 (y8 + y2)) then
   some (.inl (y0, y1, y2, y3, y4, y5, y6, Go.IntKind.wrap .u64 (y7 - 1), Go.IntKind.wrap .u64 (y8 + y2), decide (4294967296 ≤ Go.IntKind.wrap .u64 (y8 + y2))))
 else
   (S.div64_l0 fu hi lo b n) (y0) (y1) (y2) (y3) (y4) (y5) (y6) (Go.IntKind.wrap .u64 (y7 - 1)) (Go.IntKind.wrap .u64 (y8 + y2))
 else
   some (.inr (y0, y1, y2, y3, y4, y5, y6, y7, y8, decide (Go.IntKind.wrap .u64 (Go.IntKind.wrap .u64 (4294967296 * y8) + y5) < Go.IntKind.wrap .u64 (y7 * y3))))
theorem S.div64_l0_v {R : Type} (fu : Nat) (hi lo b : Int) (K : Ex → St → Option R) : ∀ (n : Nat) (y0 : Int) (y1 : Int) (y2 : Int) (y3 : Int) (y4 : Int) (y5 : Int) (y6 : Int) (y7 : Int) (y8 : Int), loopRun (C_div64 fu hi lo b) G94 S.div64_b0 n (S.div64_s0 hi lo b (y0) (y1) (y2) (y3) (y4) (y5) (y6) (y7) (y8)) K = oK (β := (Int × Int × Int × Int × Int × Int × Int × Int × Int × Bool) ⊕ (Int × Int × Int × Int × Int × Int × Int × Int × Int × Bool)) (S.div64_g0 hi lo b K) (S.div64_l0 fu hi lo b n y0 y1 y2 y3 y4 y5 y6 y7 y8)
  | 0, _, _, _, _, _, _, _, _, _ => rfl
  | n + 1, y0, y1, y2, y3, y4, y5, y6, y7, y8 => (S.div64_l0_k fu hi lo b n K y0 y1 y2 y3 y4 y5 y6 y7 y8).trans (bif_lift (f := (oK (S.div64_g0 hi lo b K))) (bif_lift (f := (oK (S.div64_g0 hi lo b K))) rfl (S.div64_l0_v fu hi lo b K n (y0) (y1) (y2) (y3) (y4) (y5) (y6) (Go.IntKind.wrap .u64 (y7 - 1)) (Go.IntKind.wrap .u64 (y8 + y2)))) (bif_lift (f := (oK (S.div64_g0 hi lo b K))) (bif_lift (f := (oK (S.div64_g0 hi lo b K))) rfl (S.div64_l0_v fu hi lo b K n (y0) (y1) (y2) (y3) (y4) (y5) (y6) (Go.IntKind.wrap .u64 (y7 - 1)) (Go.IntKind.wrap .u64 (y8 + y2)))) rfl))
theorem S.div64_a0_1_k {R : Type} (fu : Nat) (hi lo b : Int) (z0 : Int) (z1 : Int) (z2 : Int) (z3 : Int) (z4 : Int) (z5 : Int) (z6 : Int) (z7 : Int) (z8 : Int) (z9 : Bool) (k : AVal → List Blk → Option R) : contOf (C_div64 fu hi lo b) G94 (bodyOf Try.f92) [1, 1, 1, 1, 1, 1, 1, 1, 1, 1, 1, 1, 1, 1, 0, 0] (retK tis F92 Try.f92 (List.length ([] : List Blk)) k) (Ex.exit 0) (S.div64_x0_1 hi lo b (z0) (z1) (z2) (z3) (z4) (z5) (z6) (z7) (z8) (z9)) =
  (bif decide (z2 = 0) then
   none
 else
   loopRun (C_div64 fu hi lo b) G94 S.div64_b1 fu (S.div64_s1 hi lo b (z0) (z1) (z2) (z3) (z6) (z7) (Go.IntKind.wrap .u64 (Go.IntKind.wrap .u64 (Go.IntKind.wrap .u64 (Go.IntKind.wrap .u64 (z4 * 4294967296) + z5) - Go.IntKind.wrap .u64 (z7 * z0)) - Go.IntKind.wrap .u64 (Go.IntKind.wrap .u64 (Int.tdiv (Go.IntKind.wrap .u64 (Go.IntKind.wrap .u64 (Go.IntKind.wrap .u64 (z4 * 4294967296) + z5) - Go.IntKind.wrap .u64 (z7 * z0))) z2) * z2))) (Go.IntKind.wrap .u64 (Go.IntKind.wrap .u64 (Go.IntKind.wrap .u64 (z4 * 4294967296) + z5) - Go.IntKind.wrap .u64 (z7 * z0))) (Go.IntKind.wrap .u64 (Int.tdiv (Go.IntKind.wrap .u64 (Go.IntKind.wrap .u64 (Go.IntKind.wrap .u64 (z4 * 4294967296) + z5) - Go.IntKind.wrap .u64 (z7 * z0))) z2))) (contOf (C_div64 fu hi lo b) G94 (bodyOf Try.f92) [1, 1, 1, 1, 1, 1, 1, 1, 1, 1, 1, 1, 1, 1, 1, 1, 1, 1, 0, 0] (retK tis F92 Try.f92 (List.length ([] : List Blk)) k))) := by kernel_rfl
def S.div64_a0_1 (fu : Nat) (hi lo b : Int) (z0 : Int) (z1 : Int) (z2 : Int) (z3 : Int) (z4 : Int) (z5 : Int) (z6 : Int) (z7 : Int) (z8 : Int) (z9 : Bool) : Option (Int × Int) :=
  bif decide (z2 = 0) then
   none
 else
   optK (S.div64_l1 fu hi lo b fu (z0) (z1) (z2) (z3) (z6) (z7) (Go.IntKind.wrap .u64 (Go.IntKind.wrap .u64 (Go.IntKind.wrap .u64 (Go.IntKind.wrap .u64 (z4 * 4294967296) + z5) - Go.IntKind.wrap .u64 (z7 * z0)) - Go.IntKind.wrap .u64 (Go.IntKind.wrap .u64 (Int.tdiv (Go.IntKind.wrap .u64 (Go.IntKind.wrap .u64 (Go.IntKind.wrap .u64 (z4 * 4294967296) + z5) - Go.IntKind.wrap .u64 (z7 * z0))) z2) * z2))) (Go.IntKind.wrap .u64 (Go.IntKind.wrap .u64 (Go.IntKind.wrap .u64 (z4 * 4294967296) + z5) - Go.IntKind.wrap .u64 (z7 * z0))) (Go.IntKind.wrap .u64 (Int.tdiv (Go.IntKind.wrap .u64 (Go.IntKind.wrap .u64 (Go.IntKind.wrap .u64 (z4 * 4294967296) + z5) - Go.IntKind.wrap .u64 (z7 * z0))) z2))) (Sum.elim (fun z : Int × Int × Int × Int × Int × Int × Int × Int × Int × Bool => S.div64_a1_0 fu hi lo b (z.1) (z.2.1) (z.2.2.1) (z.2.2.2.1) (z.2.2.2.2.1) (z.2.2.2.2.2.1) (z.2.2.2.2.2.2.1) (z.2.2.2.2.2.2.2.1) (z.2.2.2.2.2.2.2.2.1) (z.2.2.2.2.2.2.2.2.2)) (fun z : Int × Int × Int × Int × Int × Int × Int × Int × Int × Bool => S.div64_a1_1 fu hi lo b (z.1) (z.2.1) (z.2.2.1) (z.2.2.2.1) (z.2.2.2.2.1) (z.2.2.2.2.2.1) (z.2.2.2.2.2.2.1) (z.2.2.2.2.2.2.2.1) (z.2.2.2.2.2.2.2.2.1) (z.2.2.2.2.2.2.2.2.2)))
theorem S.div64_a0_1_v {R : Type} (fu : Nat) (hi lo b : Int) (z0 : Int) (z1 : Int) (z2 : Int) (z3 : Int) (z4 : Int) (z5 : Int) (z6 : Int) (z7 : Int) (z8 : Int) (z9 : Bool) (k : AVal → List Blk → Option R) : contOf (C_div64 fu hi lo b) G94 (bodyOf Try.f92) [1, 1, 1, 1, 1, 1, 1, 1, 1, 1, 1, 1, 1, 1, 0, 0] (retK tis F92 Try.f92 (List.length ([] : List Blk)) k) (Ex.exit 0) (S.div64_x0_1 hi lo b (z0) (z1) (z2) (z3) (z4) (z5) (z6) (z7) (z8) (z9)) = oK (S.div64_gk hi lo b k) (S.div64_a0_1 fu hi lo b z0 z1 z2 z3 z4 z5 z6 z7 z8 z9) :=
  (S.div64_a0_1_k fu hi lo b z0 z1 z2 z3 z4 z5 z6 z7 z8 z9 k).trans (bif_lift (f := (oK (S.div64_gk hi lo b k))) rfl (arr_lift (S.div64_l1_v fu hi lo b (contOf (C_div64 fu hi lo b) G94 (bodyOf Try.f92) [1, 1, 1, 1, 1, 1, 1, 1, 1, 1, 1, 1, 1, 1, 1, 1, 1, 1, 0, 0] (retK tis F92 Try.f92 (List.length ([] : List Blk)) k)) fu (z0) (z1) (z2) (z3) (z6) (z7) (Go.IntKind.wrap .u64 (Go.IntKind.wrap .u64 (Go.IntKind.wrap .u64 (Go.IntKind.wrap .u64 (z4 * 4294967296) + z5) - Go.IntKind.wrap .u64 (z7 * z0)) - Go.IntKind.wrap .u64 (Go.IntKind.wrap .u64 (Int.tdiv (Go.IntKind.wrap .u64 (Go.IntKind.wrap .u64 (Go.IntKind.wrap .u64 (z4 * 4294967296) + z5) - Go.IntKind.wrap .u64 (z7 * z0))) z2) * z2))) (Go.IntKind.wrap .u64 (Go.IntKind.wrap .u64 (Go.IntKind.wrap .u64 (z4 * 4294967296) + z5) - Go.IntKind.wrap .u64 (z7 * z0))) (Go.IntKind.wrap .u64 (Int.tdiv (Go.IntKind.wrap .u64 (Go.IntKind.wrap .u64 (Go.IntKind.wrap .u64 (z4 * 4294967296) + z5) - Go.IntKind.wrap .u64 (z7 * z0))) z2))) ((sum_lift (fun z => S.div64_a1_0_v fu hi lo b (z.1) (z.2.1) (z.2.2.1) (z.2.2.2.1) (z.2.2.2.2.1) (z.2.2.2.2.2.1) (z.2.2.2.2.2.2.1) (z.2.2.2.2.2.2.2.1) (z.2.2.2.2.2.2.2.2.1) (z.2.2.2.2.2.2.2.2.2) k) (fun z => S.div64_a1_1_v fu hi lo b (z.1) (z.2.1) (z.2.2.1) (z.2.2.2.1) (z.2.2.2.2.1) (z.2.2.2.2.2.1) (z.2.2.2.2.2.2.1) (z.2.2.2.2.2.2.2.1) (z.2.2.2.2.2.2.2.2.1) (z.2.2.2.2.2.2.2.2.2) k)))))
theorem S.div64_a0_0_k {R : Type} (fu : Nat) (hi lo b : Int) (z0 : Int) (z1 : Int) (z2 : Int) (z3 : Int) (z4 : Int) (z5 : Int) (z6 : Int) (z7 : Int) (z8 : Int) (z9 : Bool) (k : AVal → List Blk → Option R) : contOf (C_div64 fu hi lo b) G94 (bodyOf Try.f92) [1, 1, 1, 1, 1, 1, 1, 1, 1, 1, 1, 1, 1, 1, 0, 0] (retK tis F92 Try.f92 (List.length ([] : List Blk)) k) (Ex.exit 0) (S.div64_x0_0 hi lo b (z0) (z1) (z2) (z3) (z4) (z5) (z6) (z7) (z8) (z9)) =
  (bif decide (z2 = 0) then
   none
 else
   loopRun (C_div64 fu hi lo b) G94 S.div64_b1 fu (S.div64_s1 hi lo b (z0) (z1) (z2) (z3) (z6) (z7) (Go.IntKind.wrap .u64 (Go.IntKind.wrap .u64 (Go.IntKind.wrap .u64 (Go.IntKind.wrap .u64 (z4 * 4294967296) + z5) - Go.IntKind.wrap .u64 (z7 * z0)) - Go.IntKind.wrap .u64 (Go.IntKind.wrap .u64 (Int.tdiv (Go.IntKind.wrap .u64 (Go.IntKind.wrap .u64 (Go.IntKind.wrap .u64 (z4 * 4294967296) + z5) - Go.IntKind.wrap .u64 (z7 * z0))) z2) * z2))) (Go.IntKind.wrap .u64 (Go.IntKind.wrap .u64 (Go.IntKind.wrap .u64 (z4 * 4294967296) + z5) - Go.IntKind.wrap .u64 (z7 * z0))) (Go.IntKind.wrap .u64 (Int.tdiv (Go.IntKind.wrap .u64 (Go.IntKind.wrap .u64 (Go.IntKind.wrap .u64 (z4 * 4294967296) + z5) - Go.IntKind.wrap .u64 (z7 * z0))) z2))) (contOf (C_div64 fu hi lo b) G94 (bodyOf Try.f92) [1, 1, 1, 1, 1, 1, 1, 1, 1, 1, 1, 1, 1, 1, 1, 1, 1, 1, 0, 0] (retK tis F92 Try.f92 (List.length ([] : List Blk)) k))) := by kernel_rfl
def S.div64_a0_0 (fu : Nat) (hi lo b : Int) (z0 : Int) (z1 : Int) (z2 : Int) (z3 : Int) (z4 : Int) (z5 : Int) (z6 : Int) (z7 : Int) (z8 : Int) (z9 : Bool) : Option (Int × Int) :=
  bif decide (z2 = 0) then
   none
 else
   optK (S.div64_l1 fu hi lo b fu (z0) (z1) (z2) (z3) (z6) (z7) (Go.IntKind.wrap .u64 (Go.IntKind.wrap .u64 (Go.IntKind.wrap .u64 (Go.IntKind.wrap .u64 (z4 * 4294967296) + z5) - Go.IntKind.wrap .u64 (z7 * z0)) - Go.IntKind.wrap .u64 (Go.IntKind.wrap .u64 (Int.tdiv (Go.IntKind.wrap .u64 (Go.IntKind.wrap .u64 (Go.IntKind.wrap .u64 (z4 * 4294967296) + z5) - Go.IntKind.wrap .u64 (z7 * z0))) z2) * z2))) (Go.IntKind.wrap .u64 (Go.IntKind.wrap .u64 (Go.IntKind.wrap .u64 (z4 * 4294967296) + z5) - Go.IntKind.wrap .u64 (z7 * z0))) (Go.IntKind.wrap .u64 (Int.tdiv (Go.IntKind.wrap .u64 (Go.IntKind.wrap .u64 (Go.IntKind.wrap .u64 (z4 * 4294967296) + z5) - Go.IntKind.wrap .u64 (z7 * z0))) z2))) (Sum.elim (fun z : Int × Int × Int × Int × Int × Int × Int × Int × Int × Bool => S.div64_a1_0 fu hi lo b (z.1) (z.2.1) (z.2.2.1) (z.2.2.2.1) (z.2.2.2.2.1) (z.2.2.2.2.2.1) (z.2.2.2.2.2.2.1) (z.2.2.2.2.2.2.2.1) (z.2.2.2.2.2.2.2.2.1) (z.2.2.2.2.2.2.2.2.2)) (fun z : Int × Int × Int × Int × Int × Int × Int × Int × Int × Bool => S.div64_a1_1 fu hi lo b (z.1) (z.2.1) (z.2.2.1) (z.2.2.2.1) (z.2.2.2.2.1) (z.2.2.2.2.2.1) (z.2.2.2.2.2.2.1) (z.2.2.2.2.2.2.2.1) (z.2.2.2.2.2.2.2.2.1) (z.2.2.2.2.2.2.2.2.2)))
theorem S.div64_a0_0_v {R : Type} (fu : Nat) (hi lo b : Int) (z0 : Int) (z1 : Int) (z2 : Int) (z3 : Int) (z4 : Int) (z5 : Int) (z6 : Int) (z7 : Int) (z8 : Int) (z9 : Bool) (k : AVal → List Blk → Option R) : contOf (C_div64 fu hi lo b) G94 (bodyOf Try.f92) [1, 1, 1, 1, 1, 1, 1, 1, 1, 1, 1, 1, 1, 1, 0, 0] (retK tis F92 Try.f92 (List.length ([] : List Blk)) k) (Ex.exit 0) (S.div64_x0_0 hi lo b (z0) (z1) (z2) (z3) (z4) (z5) (z6) (z7) (z8) (z9)) = oK (S.div64_gk hi lo b k) (S.div64_a0_0 fu hi lo b z0 z1 z2 z3 z4 z5 z6 z7 z8 z9) :=
  (S.div64_a0_0_k fu hi lo b z0 z1 z2 z3 z4 z5 z6 z7 z8 z9 k).trans (bif_lift (f := (oK (S.div64_gk hi lo b k))) rfl (arr_lift (S.div64_l1_v fu hi lo b (contOf (C_div64 fu hi lo b) G94 (bodyOf Try.f92) [1, 1, 1, 1, 1, 1, 1, 1, 1, 1, 1, 1, 1, 1, 1, 1, 1, 1, 0, 0] (retK tis F92 Try.f92 (List.length ([] : List Blk)) k)) fu (z0) (z1) (z2) (z3) (z6) (z7) (Go.IntKind.wrap .u64 (Go.IntKind.wrap .u64 (Go.IntKind.wrap .u64 (Go.IntKind.wrap .u64 (z4 * 4294967296) + z5) - Go.IntKind.wrap .u64 (z7 * z0)) - Go.IntKind.wrap .u64 (Go.IntKind.wrap .u64 (Int.tdiv (Go.IntKind.wrap .u64 (Go.IntKind.wrap .u64 (Go.IntKind.wrap .u64 (z4 * 4294967296) + z5) - Go.IntKind.wrap .u64 (z7 * z0))) z2) * z2))) (Go.IntKind.wrap .u64 (Go.IntKind.wrap .u64 (Go.IntKind.wrap .u64 (z4 * 4294967296) + z5) - Go.IntKind.wrap .u64 (z7 * z0))) (Go.IntKind.wrap .u64 (Int.tdiv (Go.IntKind.wrap .u64 (Go.IntKind.wrap .u64 (Go.IntKind.wrap .u64 (z4 * 4294967296) + z5) - Go.IntKind.wrap .u64 (z7 * z0))) z2))) ((sum_lift (fun z => S.div64_a1_0_v fu hi lo b (z.1) (z.2.1) (z.2.2.1) (z.2.2.2.1) (z.2.2.2.2.1) (z.2.2.2.2.2.1) (z.2.2.2.2.2.2.1) (z.2.2.2.2.2.2.2.1) (z.2.2.2.2.2.2.2.2.1) (z.2.2.2.2.2.2.2.2.2) k) (fun z => S.div64_a1_1_v fu hi lo b (z.1) (z.2.1) (z.2.2.1) (z.2.2.2.1) (z.2.2.2.2.1) (z.2.2.2.2.2.1) (z.2.2.2.2.2.2.1) (z.2.2.2.2.2.2.2.1) (z.2.2.2.2.2.2.2.2.1) (z.2.2.2.2.2.2.2.2.2) k)))))
theorem S.div64_k {R : Type} (fu : Nat) (hi lo b : Int) (k : AVal → List Blk → Option R) : fnEval tis F92 fu G94 Try.f92 [.int .u64 hi, .int .u64 lo, .int .u64 b] [] k =
  (bif decide (b = 0) then
   none
 else
   bif decide (b ≤ hi) then
   none
 else
   bif decide (hi = 0) then
   bif decide (b = 0) then
   none
 else
   bif decide (b = 0) then
   none
 else
   k (.tuple [.int .u64 (Go.IntKind.wrap .u64 (Int.tdiv lo b)), .int .u64 (Int.tmod lo b)]) ([])
 else
   (optK (S.lz64 b) fun o5 =>
   bif decide (Go.IntKind.wrap .u64 o5 < 0) then
   none
 else
   bif decide (Go.IntKind.wrap .u64 o5 < 0) then
   none
 else
   bif decide (Go.IntKind.wrap .u64 (64 - Go.IntKind.wrap .u64 o5) < 0) then
   none
 else
   bif decide (Go.IntKind.wrap .u64 o5 < 0) then
   none
 else
   bif decide (Int.fdiv (Go.IntKind.wrap .u64 (b * 2 ^ Min.min (Int.toNat (Go.IntKind.wrap .u64 o5)) 64)) 4294967296 = 0) then
   none
 else
   loopRun (C_div64 fu hi lo b) G94 S.div64_b0 fu (S.div64_s0 hi lo b (Go.IntKind.wrap .u64 (b * 2 ^ Min.min (Int.toNat (Go.IntKind.wrap .u64 o5)) 64)) (Go.IntKind.wrap .u64 o5) (Int.fdiv (Go.IntKind.wrap .u64 (b * 2 ^ Min.min (Int.toNat (Go.IntKind.wrap .u64 o5)) 64)) 4294967296) (bitsA Go.BinOp.and .u64 (Go.IntKind.wrap .u64 (b * 2 ^ Min.min (Int.toNat (Go.IntKind.wrap .u64 o5)) 64)) 4294967295) (bitsA Go.BinOp.or .u64 (Go.IntKind.wrap .u64 (hi * 2 ^ Min.min (Int.toNat (Go.IntKind.wrap .u64 o5)) 64)) (Int.fdiv lo (2 ^ Min.min (Int.toNat (Go.IntKind.wrap .u64 (64 - Go.IntKind.wrap .u64 o5))) 64))) (Int.fdiv (Go.IntKind.wrap .u64 (lo * 2 ^ Min.min (Int.toNat (Go.IntKind.wrap .u64 o5)) 64)) 4294967296) (bitsA Go.BinOp.and .u64 (Go.IntKind.wrap .u64 (lo * 2 ^ Min.min (Int.toNat (Go.IntKind.wrap .u64 o5)) 64)) 4294967295) (Go.IntKind.wrap .u64 (Int.tdiv (bitsA Go.BinOp.or .u64 (Go.IntKind.wrap .u64 (hi * 2 ^ Min.min (Int.toNat (Go.IntKind.wrap .u64 o5)) 64)) (Int.fdiv lo (2 ^ Min.min (Int.toNat (Go.IntKind.wrap .u64 (64 - Go.IntKind.wrap .u64 o5))) 64))) (Int.fdiv (Go.IntKind.wrap .u64 (b * 2 ^ Min.min (Int.toNat (Go.IntKind.wrap .u64 o5)) 64)) 4294967296))) (Go.IntKind.wrap .u64 (bitsA Go.BinOp.or .u64 (Go.IntKind.wrap .u64 (hi * 2 ^ Min.min (Int.toNat (Go.IntKind.wrap .u64 o5)) 64)) (Int.fdiv lo (2 ^ Min.min (Int.toNat (Go.IntKind.wrap .u64 (64 - Go.IntKind.wrap .u64 o5))) 64)) - Go.IntKind.wrap .u64 (Go.IntKind.wrap .u64 (Int.tdiv (bitsA Go.BinOp.or .u64 (Go.IntKind.wrap .u64 (hi * 2 ^ Min.min (Int.toNat (Go.IntKind.wrap .u64 o5)) 64)) (Int.fdiv lo (2 ^ Min.min (Int.toNat (Go.IntKind.wrap .u64 (64 - Go.IntKind.wrap .u64 o5))) 64))) (Int.fdiv (Go.IntKind.wrap .u64 (b * 2 ^ Min.min (Int.toNat (Go.IntKind.wrap .u64 o5)) 64)) 4294967296)) * Int.fdiv (Go.IntKind.wrap .u64 (b * 2 ^ Min.min (Int.toNat (Go.IntKind.wrap .u64 o5)) 64)) 4294967296)))) (contOf (C_div64 fu hi lo b) G94 (bodyOf Try.f92) [1, 1, 1, 1, 1, 1, 1, 1, 1, 1, 1, 1, 1, 1, 0, 0] (retK tis F92 Try.f92 (List.length ([] : List Blk)) k)))) := by kernel_rfl
def S.div64 (fu : Nat) (hi lo b : Int) : Option (Int × Int) :=
  bif decide (b = 0) then
   none
 else
   bif decide (b ≤ hi) then
   none
 else
   bif decide (hi = 0) then
   bif decide (b = 0) then
   none
 else
   bif decide (b = 0) then
   none
 else
   some (Go.IntKind.wrap .u64 (Int.tdiv lo b), Int.tmod lo b)
 else
   (optK (S.lz64 b) fun o5 =>
   bif decide (Go.IntKind.wrap .u64 o5 < 0) then
   none
 else
   bif decide (Go.IntKind.wrap .u64 o5 < 0) then
   none
 else
   bif decide (Go.IntKind.wrap .u64 (64 - Go.IntKind.wrap .u64 o5) < 0) then
   none
 else
   bif decide (Go.IntKind.wrap .u64 o5 < 0) then
   none
 else
   bif decide (Int.fdiv (Go.IntKind.wrap .u64 (b * 2 ^ Min.min (Int.toNat (Go.IntKind.wrap .u64 o5)) 64)) 4294967296 = 0) then
   none
 else
   optK (S.div64_l0 fu hi lo b fu (Go.IntKind.wrap .u64 (b * 2 ^ Min.min (Int.toNat (Go.IntKind.wrap .u64 o5)) 64)) (Go.IntKind.wrap .u64 o5) (Int.fdiv (Go.IntKind.wrap .u64 (b * 2 ^ Min.min (Int.toNat (Go.IntKind.wrap .u64 o5)) 64)) 4294967296) (bitsA Go.BinOp.and .u64 (Go.IntKind.wrap .u64 (b * 2 ^ Min.min (Int.toNat (Go.IntKind.wrap .u64 o5)) 64)) 4294967295) (bitsA Go.BinOp.or .u64 (Go.IntKind.wrap .u64 (hi * 2 ^ Min.min (Int.toNat (Go.IntKind.wrap .u64 o5)) 64)) (Int.fdiv lo (2 ^ Min.min (Int.toNat (Go.IntKind.wrap .u64 (64 - Go.IntKind.wrap .u64 o5))) 64))) (Int.fdiv (Go.IntKind.wrap .u64 (lo * 2 ^ Min.min (Int.toNat (Go.IntKind.wrap .u64 o5)) 64)) 4294967296) (bitsA Go.BinOp.and .u64 (Go.IntKind.wrap .u64 (lo * 2 ^ Min.min (Int.toNat (Go.IntKind.wrap .u64 o5)) 64)) 4294967295) (Go.IntKind.wrap .u64 (Int.tdiv (bitsA Go.BinOp.or .u64 (Go.IntKind.wrap .u64 (hi * 2 ^ Min.min (Int.toNat (Go.IntKind.wrap .u64 o5)) 64)) (Int.fdiv lo (2 ^ Min.min (Int.toNat (Go.IntKind.wrap .u64 (64 - Go.IntKind.wrap .u64 o5))) 64))) (Int.fdiv (Go.IntKind.wrap .u64 (b * 2 ^ Min.min (Int.toNat (Go.IntKind.wrap .u64 o5)) 64)) 4294967296))) (Go.IntKind.wrap .u64 (bitsA Go.BinOp.or .u64 (Go.IntKind.wrap .u64 (hi * 2 ^ Min.min (Int.toNat (Go.IntKind.wrap .u64 o5)) 64)) (Int.fdiv lo (2 ^ Min.min (Int.toNat (Go.IntKind.wrap .u64 (64 - Go.IntKind.wrap .u64 o5))) 64)) - Go.IntKind.wrap .u64 (Go.IntKind.wrap .u64 (Int.tdiv (bitsA Go.BinOp.or .u64 (Go.IntKind.wrap .u64 (hi * 2 ^ Min.min (Int.toNat (Go.IntKind.wrap .u64 o5)) 64)) (Int.fdiv lo (2 ^ Min.min (Int.toNat (Go.IntKind.wrap .u64 (64 - Go.IntKind.wrap .u64 o5))) 64))) (Int.fdiv (Go.IntKind.wrap .u64 (b * 2 ^ Min.min (Int.toNat (Go.IntKind.wrap .u64 o5)) 64)) 4294967296)) * Int.fdiv (Go.IntKind.wrap .u64 (b * 2 ^ Min.min (Int.toNat (Go.IntKind.wrap .u64 o5)) 64)) 4294967296)))) (Sum.elim (fun z : Int × Int × Int × Int × Int × Int × Int × Int × Int × Bool => S.div64_a0_0 fu hi lo b (z.1) (z.2.1) (z.2.2.1) (z.2.2.2.1) (z.2.2.2.2.1) (z.2.2.2.2.2.1) (z.2.2.2.2.2.2.1) (z.2.2.2.2.2.2.2.1) (z.2.2.2.2.2.2.2.2.1) (z.2.2.2.2.2.2.2.2.2)) (fun z : Int × Int × Int × Int × Int × Int × Int × Int × Int × Bool => S.div64_a0_1 fu hi lo b (z.1) (z.2.1) (z.2.2.1) (z.2.2.2.1) (z.2.2.2.2.1) (z.2.2.2.2.2.1) (z.2.2.2.2.2.2.1) (z.2.2.2.2.2.2.2.1) (z.2.2.2.2.2.2.2.2.1) (z.2.2.2.2.2.2.2.2.2))))
theorem S.div64_v {R : Type} (fu : Nat) (hi lo b : Int) (k : AVal → List Blk → Option R) : fnEval tis F92 fu G94 Try.f92 [.int .u64 hi, .int .u64 lo, .int .u64 b] [] k = oK (fun v : Int × Int => k (.tuple [(.int .u64 v.1), (.int .u64 v.2)]) []) (S.div64 fu hi lo b) :=
  (S.div64_k fu hi lo b k).trans (bif_lift (f := (oK (S.div64_gk hi lo b k))) rfl (bif_lift (f := (oK (S.div64_gk hi lo b k))) rfl (bif_lift (f := (oK (S.div64_gk hi lo b k))) (bif_lift (f := (oK (S.div64_gk hi lo b k))) rfl (bif_lift (f := (oK (S.div64_gk hi lo b k))) rfl rfl)) (opt_lift fun o5 => (bif_lift (f := (oK (S.div64_gk hi lo b k))) rfl (bif_lift (f := (oK (S.div64_gk hi lo b k))) rfl (bif_lift (f := (oK (S.div64_gk hi lo b k))) rfl (bif_lift (f := (oK (S.div64_gk hi lo b k))) rfl (bif_lift (f := (oK (S.div64_gk hi lo b k))) rfl (arr_lift (S.div64_l0_v fu hi lo b (contOf (C_div64 fu hi lo b) G94 (bodyOf Try.f92) [1, 1, 1, 1, 1, 1, 1, 1, 1, 1, 1, 1, 1, 1, 0, 0] (retK tis F92 Try.f92 (List.length ([] : List Blk)) k)) fu (Go.IntKind.wrap .u64 (b * 2 ^ Min.min (Int.toNat (Go.IntKind.wrap .u64 o5)) 64)) (Go.IntKind.wrap .u64 o5) (Int.fdiv (Go.IntKind.wrap .u64 (b * 2 ^ Min.min (Int.toNat (Go.IntKind.wrap .u64 o5)) 64)) 4294967296) (bitsA Go.BinOp.and .u64 (Go.IntKind.wrap .u64 (b * 2 ^ Min.min (Int.toNat (Go.IntKind.wrap .u64 o5)) 64)) 4294967295) (bitsA Go.BinOp.or .u64 (Go.IntKind.wrap .u64 (hi * 2 ^ Min.min (Int.toNat (Go.IntKind.wrap .u64 o5)) 64)) (Int.fdiv lo (2 ^ Min.min (Int.toNat (Go.IntKind.wrap .u64 (64 - Go.IntKind.wrap .u64 o5))) 64))) (Int.fdiv (Go.IntKind.wrap .u64 (lo * 2 ^ Min.min (Int.toNat (Go.IntKind.wrap .u64 o5)) 64)) 4294967296) (bitsA Go.BinOp.and .u64 (Go.IntKind.wrap .u64 (lo * 2 ^ Min.min (Int.toNat (Go.IntKind.wrap .u64 o5)) 64)) 4294967295) (Go.IntKind.wrap .u64 (Int.tdiv (bitsA Go.BinOp.or .u64 (Go.IntKind.wrap .u64 (hi * 2 ^ Min.min (Int.toNat (Go.IntKind.wrap .u64 o5)) 64)) (Int.fdiv lo (2 ^ Min.min (Int.toNat (Go.IntKind.wrap .u64 (64 - Go.IntKind.wrap .u64 o5))) 64))) (Int.fdiv (Go.IntKind.wrap .u64 (b * 2 ^ Min.min (Int.toNat (Go.IntKind.wrap .u64 o5)) 64)) 4294967296))) (Go.IntKind.wrap .u64 (bitsA Go.BinOp.or .u64 (Go.IntKind.wrap .u64 (hi * 2 ^ Min.min (Int.toNat (Go.IntKind.wrap .u64 o5)) 64)) (Int.fdiv lo (2 ^ Min.min (Int.toNat (Go.IntKind.wrap .u64 (64 - Go.IntKind.wrap .u64 o5))) 64)) - Go.IntKind.wrap .u64 (Go.IntKind.wrap .u64 (Int.tdiv (bitsA Go.BinOp.or .u64 (Go.IntKind.wrap .u64 (hi * 2 ^ Min.min (Int.toNat (Go.IntKind.wrap .u64 o5)) 64)) (Int.fdiv lo (2 ^ Min.min (Int.toNat (Go.IntKind.wrap .u64 (64 - Go.IntKind.wrap .u64 o5))) 64))) (Int.fdiv (Go.IntKind.wrap .u64 (b * 2 ^ Min.min (Int.toNat (Go.IntKind.wrap .u64 o5)) 64)) 4294967296)) * Int.fdiv (Go.IntKind.wrap .u64 (b * 2 ^ Min.min (Int.toNat (Go.IntKind.wrap .u64 o5)) 64)) 4294967296)))) ((sum_lift (fun z => S.div64_a0_0_v fu hi lo b (z.1) (z.2.1) (z.2.2.1) (z.2.2.2.1) (z.2.2.2.2.1) (z.2.2.2.2.2.1) (z.2.2.2.2.2.2.1) (z.2.2.2.2.2.2.2.1) (z.2.2.2.2.2.2.2.2.1) (z.2.2.2.2.2.2.2.2.2) k) (fun z => S.div64_a0_1_v fu hi lo b (z.1) (z.2.1) (z.2.2.1) (z.2.2.2.1) (z.2.2.2.2.1) (z.2.2.2.2.2.1) (z.2.2.2.2.2.2.1) (z.2.2.2.2.2.2.2.1) (z.2.2.2.2.2.2.2.2.1) (z.2.2.2.2.2.2.2.2.2) k)))))))))))))
def H92 : Hnd := fun R args σ k => match args, σ with
  | [.int .u64 hi, .int .u64 lo, .int .u64 b], [] => oK (fun v : Int × Int => k (.tuple [(.int .u64 v.1), (.int .u64 v.2)]) []) (S.div64 100000 hi lo b)
  | _, _ => none
theorem H92_ok : HndOk Try.prog 92 H92 := hnd_ok tis tisOk mixOk G94_ok F92 Try.func92 rfl (by
  intro R args σ k r h
  unfold H92 at h
  split at h
  · rename_i hi lo b; exact ⟨100000, (S.div64_v 100000 hi lo b _).trans h⟩
  · cases h)
def G92 : Env := Env.add 92 H92 G94
theorem G92_ok : EnvOk Try.prog G92 := envAdd_ok H92_ok G94_ok
end Go.Proofs.Ytdgipcjigbagfaa.AB
