/- The library functions of 128 bits, as plain functions. -/
import Derived.Test.YtdgipcjigbagfaaGreatTis
import Derived.Test.YtdgipcjigbagfaaGreatFwZ
namespace Go.Proofs.YtdgipcjigbagfaaGreat.AB
set_option linter.unusedVariables false

/-! milli.end -/
def F111 : FCfg := ⟨keepAt [(0, [0]), (1, [4, 5]), (2, [14]), (3, [2, 3]), (4, [2, 3])], loopAt [], []⟩
noncomputable def S.mend_L {R : Type} (up : Bool) (k : AVal → List Blk → Option R) : Option R := fnEval tis F111 0 Env.none Tryz.f111 [.iface 4 (.bool up)] [] k
noncomputable def S.mend_gk {R : Type} (up : Bool) (k : AVal → List Blk → Option R) : (Int × Int) → Option R := (fun v : Int × Int => k (.tuple [(.int .i64 v.1), (.int .i64 v.2)]) [])
def S.mend (up : Bool) : Int × Int :=
  bif up then
   (9223372036854775807, 2)
 else
   (-9223372036854775808, 2)
theorem S.mend_v {R : Type} (up : Bool) (k : AVal → List Blk → Option R) : S.mend_L up k = (S.mend_gk up k) (S.mend up) :=
  Eq.trans (b := (bif up then
   (S.mend_gk up k) (9223372036854775807, 2)
 else
   (S.mend_gk up k) (-9223372036854775808, 2))) (by kernel_rfl) (bif_lift (f := (S.mend_gk up k)) rfl rfl)
def H111 : Hnd := fun R args σ k => match args, σ with
  | [.iface 4 (.bool up)], [] => k (.tuple [(.int .i64 (S.mend up).1), (.int .i64 (S.mend up).2)]) []
  | _, _ => none
theorem H111_ok : HndOk Tryz.prog 111 H111 := hnd_ok tis tisOk mixOk envNone_ok F111 Tryz.func111 rfl (by
  intro R args σ k r h
  unfold H111 at h
  split at h
  · rename_i up; exact ⟨0, (S.mend_v up _).trans h⟩
  · cases h)
def G111 : Env := Env.add 111 H111 Env.none
theorem G111_ok : EnvOk Tryz.prog G111 := envAdd_ok H111_ok envNone_ok

/-! math/bits.Mul64 -/
def F113 : FCfg := ⟨keepAt [(0, [0, 1]), (1, [0, 1, 6]), (2, [0, 1, 6, 7]), (3, [0, 1, 6, 7, 8]), (4, [0, 1, 6, 7, 8, 9]), (5, [0, 1, 6, 7, 8, 9, 10]), (6, [0, 1, 6, 7, 9, 11]), (7, [0, 1, 6, 7, 9, 11, 12]), (8, [0, 1, 6, 7, 9, 12, 13]), (9, [0, 1, 7, 9, 12, 13]), (10, [0, 1, 4]), (11, [4, 5])], loopAt [], []⟩
noncomputable def S.mul64_L {R : Type} (a b : Int) (k : AVal → List Blk → Option R) : Option R := fnEval tis F113 0 G111 Tryz.f113 [.int .u64 a, .int .u64 b] [] k
def S.mul64 (a b : Int) : Int × Int :=
  (Go.IntKind.wrap .u64 (Go.IntKind.wrap .u64 (Go.IntKind.wrap .u64 (Int.fdiv a 4294967296 * Int.fdiv b 4294967296) + Int.fdiv (Go.IntKind.wrap .u64 (Go.IntKind.wrap .u64 (Int.fdiv a 4294967296 * bitsA Go.BinOp.and .u64 b 4294967295) + Int.fdiv (Go.IntKind.wrap .u64 (bitsA Go.BinOp.and .u64 a 4294967295 * bitsA Go.BinOp.and .u64 b 4294967295)) 4294967296)) 4294967296) + Int.fdiv (Go.IntKind.wrap .u64 (bitsA Go.BinOp.and .u64 (Go.IntKind.wrap .u64 (Go.IntKind.wrap .u64 (Int.fdiv a 4294967296 * bitsA Go.BinOp.and .u64 b 4294967295) + Int.fdiv (Go.IntKind.wrap .u64 (bitsA Go.BinOp.and .u64 a 4294967295 * bitsA Go.BinOp.and .u64 b 4294967295)) 4294967296)) 4294967295 + Go.IntKind.wrap .u64 (bitsA Go.BinOp.and .u64 a 4294967295 * Int.fdiv b 4294967296))) 4294967296), Go.IntKind.wrap .u64 (a * b))
theorem S.mul64_v {R : Type} (a b : Int) (k : AVal → List Blk → Option R) : S.mul64_L a b k = k (.tuple [(.int .u64 (S.mul64 a b).1), (.int .u64 (S.mul64 a b).2)]) [] :=
  Eq.trans (b := (k (.tuple [.int .u64 (Go.IntKind.wrap .u64 (Go.IntKind.wrap .u64 (Go.IntKind.wrap .u64 (Int.fdiv a 4294967296 * Int.fdiv b 4294967296) + Int.fdiv (Go.IntKind.wrap .u64 (Go.IntKind.wrap .u64 (Int.fdiv a 4294967296 * bitsA Go.BinOp.and .u64 b 4294967295) + Int.fdiv (Go.IntKind.wrap .u64 (bitsA Go.BinOp.and .u64 a 4294967295 * bitsA Go.BinOp.and .u64 b 4294967295)) 4294967296)) 4294967296) + Int.fdiv (Go.IntKind.wrap .u64 (bitsA Go.BinOp.and .u64 (Go.IntKind.wrap .u64 (Go.IntKind.wrap .u64 (Int.fdiv a 4294967296 * bitsA Go.BinOp.and .u64 b 4294967295) + Int.fdiv (Go.IntKind.wrap .u64 (bitsA Go.BinOp.and .u64 a 4294967295 * bitsA Go.BinOp.and .u64 b 4294967295)) 4294967296)) 4294967295 + Go.IntKind.wrap .u64 (bitsA Go.BinOp.and .u64 a 4294967295 * Int.fdiv b 4294967296))) 4294967296)), .int .u64 (Go.IntKind.wrap .u64 (a * b))]) ([]))) (by kernel_rfl) rfl
def H113 : Hnd := fun R args σ k => match args, σ with
  | [.int .u64 a, .int .u64 b], [] => k (.tuple [(.int .u64 (S.mul64 a b).1), (.int .u64 (S.mul64 a b).2)]) []
  | _, _ => none
theorem H113_ok : HndOk Tryz.prog 113 H113 := hnd_ok tis tisOk mixOk G111_ok F113 Tryz.func113 rfl (by
  intro R args σ k r h
  unfold H113 at h
  split at h
  · rename_i a b; exact ⟨0, (S.mul64_v a b _).trans h⟩
  · cases h)
def G113 : Env := Env.add 113 H113 G111
theorem G113_ok : EnvOk Tryz.prog G113 := envAdd_ok H113_ok G111_ok

/-! math/bits.Len64 -/
def F121 : FCfg := ⟨keepAt [(0, [0, 2]), (1, [0, 2, 4]), (2, [0]), (3, [0, 2]), (4, [0, 2, 8]), (5, [0, 2]), (6, [0, 2]), (7, [0, 2, 14]), (8, [0, 2]), (9, [0, 2]), (10, [2])], loopAt [], []⟩
noncomputable def S.len64_L {R : Type} (a : Int) (k : AVal → List Blk → Option R) : Option R := fnEval tis F121 0 G113 Tryz.f121 [.int .u64 a] [] k
noncomputable def S.len64_gk {R : Type} (a : Int) (k : AVal → List Blk → Option R) : (Int) → Option R := (fun v : Int => k (.int .i64 v) [])
def S.len64 (a : Int) : Option (Int) :=
  bif decide (4294967296 ≤ a) then
   bif decide (65536 ≤ Int.fdiv a 4294967296) then
   bif decide (256 ≤ Int.fdiv (Int.fdiv a 4294967296) 65536) then
   bif inB (Go.IntKind.wrap .u8 (Int.fdiv (Int.fdiv (Int.fdiv a 4294967296) 65536) 256)) 256 then
   some (Go.IntKind.wrap .i64 (56 + Go.IntKind.wrap .i64 (byteAt (bs [0, 1, 2, 2, 3, 3, 3, 3, 4, 4, 4, 4, 4, 4, 4, 4, 5, 5, 5, 5, 5, 5, 5, 5, 5, 5, 5, 5, 5, 5, 5, 5, 6, 6, 6, 6, 6, 6, 6, 6, 6, 6, 6, 6, 6, 6, 6, 6, 6, 6, 6, 6, 6, 6, 6, 6, 6, 6, 6, 6, 6, 6, 6, 6, 7, 7, 7, 7, 7, 7, 7, 7, 7, 7, 7, 7, 7, 7, 7, 7, 7, 7, 7, 7, 7, 7, 7, 7, 7, 7, 7, 7, 7, 7, 7, 7, 7, 7, 7, 7, 7, 7, 7, 7, 7, 7, 7, 7, 7, 7, 7, 7, 7, 7, 7, 7, 7, 7, 7, 7, 7, 7, 7, 7, 7, 7, 7, 7, 8, 8, 8, 8, 8, 8, 8, 8, 8, 8, 8, 8, 8, 8, 8, 8, 8, 8, 8, 8, 8, 8, 8, 8, 8, 8, 8, 8, 8, 8, 8, 8, 8, 8, 8, 8, 8, 8, 8, 8, 8, 8, 8, 8, 8, 8, 8, 8, 8, 8, 8, 8, 8, 8, 8, 8, 8, 8, 8, 8, 8, 8, 8, 8, 8, 8, 8, 8, 8, 8, 8, 8, 8, 8, 8, 8, 8, 8, 8, 8, 8, 8, 8, 8, 8, 8, 8, 8, 8, 8, 8, 8, 8, 8, 8, 8, 8, 8, 8, 8, 8, 8, 8, 8, 8, 8, 8, 8, 8, 8, 8, 8, 8, 8, 8, 8, 8, 8, 8, 8, 8, 8, 8, 8, 8, 8, 8, 8]) (Int.toNat (Go.IntKind.wrap .u8 (Int.fdiv (Int.fdiv (Int.fdiv a 4294967296) 65536) 256))))))
 else
   none
 else
   bif inB (Go.IntKind.wrap .u8 (Int.fdiv (Int.fdiv a 4294967296) 65536)) 256 then
   some (Go.IntKind.wrap .i64 (48 + Go.IntKind.wrap .i64 (byteAt (bs [0, 1, 2, 2, 3, 3, 3, 3, 4, 4, 4, 4, 4, 4, 4, 4, 5, 5, 5, 5, 5, 5, 5, 5, 5, 5, 5, 5, 5, 5, 5, 5, 6, 6, 6, 6, 6, 6, 6, 6, 6, 6, 6, 6, 6, 6, 6, 6, 6, 6, 6, 6, 6, 6, 6, 6, 6, 6, 6, 6, 6, 6, 6, 6, 7, 7, 7, 7, 7, 7, 7, 7, 7, 7, 7, 7, 7, 7, 7, 7, 7, 7, 7, 7, 7, 7, 7, 7, 7, 7, 7, 7, 7, 7, 7, 7, 7, 7, 7, 7, 7, 7, 7, 7, 7, 7, 7, 7, 7, 7, 7, 7, 7, 7, 7, 7, 7, 7, 7, 7, 7, 7, 7, 7, 7, 7, 7, 7, 8, 8, 8, 8, 8, 8, 8, 8, 8, 8, 8, 8, 8, 8, 8, 8, 8, 8, 8, 8, 8, 8, 8, 8, 8, 8, 8, 8, 8, 8, 8, 8, 8, 8, 8, 8, 8, 8, 8, 8, 8, 8, 8, 8, 8, 8, 8, 8, 8, 8, 8, 8, 8, 8, 8, 8, 8, 8, 8, 8, 8, 8, 8, 8, 8, 8, 8, 8, 8, 8, 8, 8, 8, 8, 8, 8, 8, 8, 8, 8, 8, 8, 8, 8, 8, 8, 8, 8, 8, 8, 8, 8, 8, 8, 8, 8, 8, 8, 8, 8, 8, 8, 8, 8, 8, 8, 8, 8, 8, 8, 8, 8, 8, 8, 8, 8, 8, 8, 8, 8, 8, 8, 8, 8, 8, 8, 8, 8]) (Int.toNat (Go.IntKind.wrap .u8 (Int.fdiv (Int.fdiv a 4294967296) 65536))))))
 else
   none
 else
   bif decide (256 ≤ Int.fdiv a 4294967296) then
   bif inB (Go.IntKind.wrap .u8 (Int.fdiv (Int.fdiv a 4294967296) 256)) 256 then
   some (Go.IntKind.wrap .i64 (40 + Go.IntKind.wrap .i64 (byteAt (bs [0, 1, 2, 2, 3, 3, 3, 3, 4, 4, 4, 4, 4, 4, 4, 4, 5, 5, 5, 5, 5, 5, 5, 5, 5, 5, 5, 5, 5, 5, 5, 5, 6, 6, 6, 6, 6, 6, 6, 6, 6, 6, 6, 6, 6, 6, 6, 6, 6, 6, 6, 6, 6, 6, 6, 6, 6, 6, 6, 6, 6, 6, 6, 6, 7, 7, 7, 7, 7, 7, 7, 7, 7, 7, 7, 7, 7, 7, 7, 7, 7, 7, 7, 7, 7, 7, 7, 7, 7, 7, 7, 7, 7, 7, 7, 7, 7, 7, 7, 7, 7, 7, 7, 7, 7, 7, 7, 7, 7, 7, 7, 7, 7, 7, 7, 7, 7, 7, 7, 7, 7, 7, 7, 7, 7, 7, 7, 7, 8, 8, 8, 8, 8, 8, 8, 8, 8, 8, 8, 8, 8, 8, 8, 8, 8, 8, 8, 8, 8, 8, 8, 8, 8, 8, 8, 8, 8, 8, 8, 8, 8, 8, 8, 8, 8, 8, 8, 8, 8, 8, 8, 8, 8, 8, 8, 8, 8, 8, 8, 8, 8, 8, 8, 8, 8, 8, 8, 8, 8, 8, 8, 8, 8, 8, 8, 8, 8, 8, 8, 8, 8, 8, 8, 8, 8, 8, 8, 8, 8, 8, 8, 8, 8, 8, 8, 8, 8, 8, 8, 8, 8, 8, 8, 8, 8, 8, 8, 8, 8, 8, 8, 8, 8, 8, 8, 8, 8, 8, 8, 8, 8, 8, 8, 8, 8, 8, 8, 8, 8, 8, 8, 8, 8, 8, 8, 8]) (Int.toNat (Go.IntKind.wrap .u8 (Int.fdiv (Int.fdiv a 4294967296) 256))))))
 else
   none
 else
   bif inB (Go.IntKind.wrap .u8 (Int.fdiv a 4294967296)) 256 then
   some (Go.IntKind.wrap .i64 (32 + Go.IntKind.wrap .i64 (byteAt (bs [0, 1, 2, 2, 3, 3, 3, 3, 4, 4, 4, 4, 4, 4, 4, 4, 5, 5, 5, 5, 5, 5, 5, 5, 5, 5, 5, 5, 5, 5, 5, 5, 6, 6, 6, 6, 6, 6, 6, 6, 6, 6, 6, 6, 6, 6, 6, 6, 6, 6, 6, 6, 6, 6, 6, 6, 6, 6, 6, 6, 6, 6, 6, 6, 7, 7, 7, 7, 7, 7, 7, 7, 7, 7, 7, 7, 7, 7, 7, 7, 7, 7, 7, 7, 7, 7, 7, 7, 7, 7, 7, 7, 7, 7, 7, 7, 7, 7, 7, 7, 7, 7, 7, 7, 7, 7, 7, 7, 7, 7, 7, 7, 7, 7, 7, 7, 7, 7, 7, 7, 7, 7, 7, 7, 7, 7, 7, 7, 8, 8, 8, 8, 8, 8, 8, 8, 8, 8, 8, 8, 8, 8, 8, 8, 8, 8, 8, 8, 8, 8, 8, 8, 8, 8, 8, 8, 8, 8, 8, 8, 8, 8, 8, 8, 8, 8, 8, 8, 8, 8, 8, 8, 8, 8, 8, 8, 8, 8, 8, 8, 8, 8, 8, 8, 8, 8, 8, 8, 8, 8, 8, 8, 8, 8, 8, 8, 8, 8, 8, 8, 8, 8, 8, 8, 8, 8, 8, 8, 8, 8, 8, 8, 8, 8, 8, 8, 8, 8, 8, 8, 8, 8, 8, 8, 8, 8, 8, 8, 8, 8, 8, 8, 8, 8, 8, 8, 8, 8, 8, 8, 8, 8, 8, 8, 8, 8, 8, 8, 8, 8, 8, 8, 8, 8, 8, 8]) (Int.toNat (Go.IntKind.wrap .u8 (Int.fdiv a 4294967296))))))
 else
   none
 else
   bif decide (65536 ≤ a) then
   bif decide (256 ≤ Int.fdiv a 65536) then
   bif inB (Go.IntKind.wrap .u8 (Int.fdiv (Int.fdiv a 65536) 256)) 256 then
   some (Go.IntKind.wrap .i64 (24 + Go.IntKind.wrap .i64 (byteAt (bs [0, 1, 2, 2, 3, 3, 3, 3, 4, 4, 4, 4, 4, 4, 4, 4, 5, 5, 5, 5, 5, 5, 5, 5, 5, 5, 5, 5, 5, 5, 5, 5, 6, 6, 6, 6, 6, 6, 6, 6, 6, 6, 6, 6, 6, 6, 6, 6, 6, 6, 6, 6, 6, 6, 6, 6, 6, 6, 6, 6, 6, 6, 6, 6, 7, 7, 7, 7, 7, 7, 7, 7, 7, 7, 7, 7, 7, 7, 7, 7, 7, 7, 7, 7, 7, 7, 7, 7, 7, 7, 7, 7, 7, 7, 7, 7, 7, 7, 7, 7, 7, 7, 7, 7, 7, 7, 7, 7, 7, 7, 7, 7, 7, 7, 7, 7, 7, 7, 7, 7, 7, 7, 7, 7, 7, 7, 7, 7, 8, 8, 8, 8, 8, 8, 8, 8, 8, 8, 8, 8, 8, 8, 8, 8, 8, 8, 8, 8, 8, 8, 8, 8, 8, 8, 8, 8, 8, 8, 8, 8, 8, 8, 8, 8, 8, 8, 8, 8, 8, 8, 8, 8, 8, 8, 8, 8, 8, 8, 8, 8, 8, 8, 8, 8, 8, 8, 8, 8, 8, 8, 8, 8, 8, 8, 8, 8, 8, 8, 8, 8, 8, 8, 8, 8, 8, 8, 8, 8, 8, 8, 8, 8, 8, 8, 8, 8, 8, 8, 8, 8, 8, 8, 8, 8, 8, 8, 8, 8, 8, 8, 8, 8, 8, 8, 8, 8, 8, 8, 8, 8, 8, 8, 8, 8, 8, 8, 8, 8, 8, 8, 8, 8, 8, 8, 8, 8]) (Int.toNat (Go.IntKind.wrap .u8 (Int.fdiv (Int.fdiv a 65536) 256))))))
 else
   none
 else
   bif inB (Go.IntKind.wrap .u8 (Int.fdiv a 65536)) 256 then
   some (Go.IntKind.wrap .i64 (16 + Go.IntKind.wrap .i64 (byteAt (bs [0, 1, 2, 2, 3, 3, 3, 3, 4, 4, 4, 4, 4, 4, 4, 4, 5, 5, 5, 5, 5, 5, 5, 5, 5, 5, 5, 5, 5, 5, 5, 5, 6, 6, 6, 6, 6, 6, 6, 6, 6, 6, 6, 6, 6, 6, 6, 6, 6, 6, 6, 6, 6, 6, 6, 6, 6, 6, 6, 6, 6, 6, 6, 6, 7, 7, 7, 7, 7, 7, 7, 7, 7, 7, 7, 7, 7, 7, 7, 7, 7, 7, 7, 7, 7, 7, 7, 7, 7, 7, 7, 7, 7, 7, 7, 7, 7, 7, 7, 7, 7, 7, 7, 7, 7, 7, 7, 7, 7, 7, 7, 7, 7, 7, 7, 7, 7, 7, 7, 7, 7, 7, 7, 7, 7, 7, 7, 7, 8, 8, 8, 8, 8, 8, 8, 8, 8, 8, 8, 8, 8, 8, 8, 8, 8, 8, 8, 8, 8, 8, 8, 8, 8, 8, 8, 8, 8, 8, 8, 8, 8, 8, 8, 8, 8, 8, 8, 8, 8, 8, 8, 8, 8, 8, 8, 8, 8, 8, 8, 8, 8, 8, 8, 8, 8, 8, 8, 8, 8, 8, 8, 8, 8, 8, 8, 8, 8, 8, 8, 8, 8, 8, 8, 8, 8, 8, 8, 8, 8, 8, 8, 8, 8, 8, 8, 8, 8, 8, 8, 8, 8, 8, 8, 8, 8, 8, 8, 8, 8, 8, 8, 8, 8, 8, 8, 8, 8, 8, 8, 8, 8, 8, 8, 8, 8, 8, 8, 8, 8, 8, 8, 8, 8, 8, 8, 8]) (Int.toNat (Go.IntKind.wrap .u8 (Int.fdiv a 65536))))))
 else
   none
 else
   bif decide (256 ≤ a) then
   bif inB (Go.IntKind.wrap .u8 (Int.fdiv a 256)) 256 then
   some (Go.IntKind.wrap .i64 (8 + Go.IntKind.wrap .i64 (byteAt (bs [0, 1, 2, 2, 3, 3, 3, 3, 4, 4, 4, 4, 4, 4, 4, 4, 5, 5, 5, 5, 5, 5, 5, 5, 5, 5, 5, 5, 5, 5, 5, 5, 6, 6, 6, 6, 6, 6, 6, 6, 6, 6, 6, 6, 6, 6, 6, 6, 6, 6, 6, 6, 6, 6, 6, 6, 6, 6, 6, 6, 6, 6, 6, 6, 7, 7, 7, 7, 7, 7, 7, 7, 7, 7, 7, 7, 7, 7, 7, 7, 7, 7, 7, 7, 7, 7, 7, 7, 7, 7, 7, 7, 7, 7, 7, 7, 7, 7, 7, 7, 7, 7, 7, 7, 7, 7, 7, 7, 7, 7, 7, 7, 7, 7, 7, 7, 7, 7, 7, 7, 7, 7, 7, 7, 7, 7, 7, 7, 8, 8, 8, 8, 8, 8, 8, 8, 8, 8, 8, 8, 8, 8, 8, 8, 8, 8, 8, 8, 8, 8, 8, 8, 8, 8, 8, 8, 8, 8, 8, 8, 8, 8, 8, 8, 8, 8, 8, 8, 8, 8, 8, 8, 8, 8, 8, 8, 8, 8, 8, 8, 8, 8, 8, 8, 8, 8, 8, 8, 8, 8, 8, 8, 8, 8, 8, 8, 8, 8, 8, 8, 8, 8, 8, 8, 8, 8, 8, 8, 8, 8, 8, 8, 8, 8, 8, 8, 8, 8, 8, 8, 8, 8, 8, 8, 8, 8, 8, 8, 8, 8, 8, 8, 8, 8, 8, 8, 8, 8, 8, 8, 8, 8, 8, 8, 8, 8, 8, 8, 8, 8, 8, 8, 8, 8, 8, 8]) (Int.toNat (Go.IntKind.wrap .u8 (Int.fdiv a 256))))))
 else
   none
 else
   bif inB (Go.IntKind.wrap .u8 a) 256 then
   some (Go.IntKind.wrap .i64 (0 + Go.IntKind.wrap .i64 (byteAt (bs [0, 1, 2, 2, 3, 3, 3, 3, 4, 4, 4, 4, 4, 4, 4, 4, 5, 5, 5, 5, 5, 5, 5, 5, 5, 5, 5, 5, 5, 5, 5, 5, 6, 6, 6, 6, 6, 6, 6, 6, 6, 6, 6, 6, 6, 6, 6, 6, 6, 6, 6, 6, 6, 6, 6, 6, 6, 6, 6, 6, 6, 6, 6, 6, 7, 7, 7, 7, 7, 7, 7, 7, 7, 7, 7, 7, 7, 7, 7, 7, 7, 7, 7, 7, 7, 7, 7, 7, 7, 7, 7, 7, 7, 7, 7, 7, 7, 7, 7, 7, 7, 7, 7, 7, 7, 7, 7, 7, 7, 7, 7, 7, 7, 7, 7, 7, 7, 7, 7, 7, 7, 7, 7, 7, 7, 7, 7, 7, 8, 8, 8, 8, 8, 8, 8, 8, 8, 8, 8, 8, 8, 8, 8, 8, 8, 8, 8, 8, 8, 8, 8, 8, 8, 8, 8, 8, 8, 8, 8, 8, 8, 8, 8, 8, 8, 8, 8, 8, 8, 8, 8, 8, 8, 8, 8, 8, 8, 8, 8, 8, 8, 8, 8, 8, 8, 8, 8, 8, 8, 8, 8, 8, 8, 8, 8, 8, 8, 8, 8, 8, 8, 8, 8, 8, 8, 8, 8, 8, 8, 8, 8, 8, 8, 8, 8, 8, 8, 8, 8, 8, 8, 8, 8, 8, 8, 8, 8, 8, 8, 8, 8, 8, 8, 8, 8, 8, 8, 8, 8, 8, 8, 8, 8, 8, 8, 8, 8, 8, 8, 8, 8, 8, 8, 8, 8, 8]) (Int.toNat (Go.IntKind.wrap .u8 a)))))
 else
   none
theorem S.len64_v {R : Type} (a : Int) (k : AVal → List Blk → Option R) : S.len64_L a k = oK (S.len64_gk a k) (S.len64 a) :=
  Eq.trans (b := (bif decide (4294967296 ≤ a) then
   bif decide (65536 ≤ Int.fdiv a 4294967296) then
   bif decide (256 ≤ Int.fdiv (Int.fdiv a 4294967296) 65536) then
   bif inB (Go.IntKind.wrap .u8 (Int.fdiv (Int.fdiv (Int.fdiv a 4294967296) 65536) 256)) 256 then
   (S.len64_gk a k) (Go.IntKind.wrap .i64 (56 + Go.IntKind.wrap .i64 (byteAt (bs [0, 1, 2, 2, 3, 3, 3, 3, 4, 4, 4, 4, 4, 4, 4, 4, 5, 5, 5, 5, 5, 5, 5, 5, 5, 5, 5, 5, 5, 5, 5, 5, 6, 6, 6, 6, 6, 6, 6, 6, 6, 6, 6, 6, 6, 6, 6, 6, 6, 6, 6, 6, 6, 6, 6, 6, 6, 6, 6, 6, 6, 6, 6, 6, 7, 7, 7, 7, 7, 7, 7, 7, 7, 7, 7, 7, 7, 7, 7, 7, 7, 7, 7, 7, 7, 7, 7, 7, 7, 7, 7, 7, 7, 7, 7, 7, 7, 7, 7, 7, 7, 7, 7, 7, 7, 7, 7, 7, 7, 7, 7, 7, 7, 7, 7, 7, 7, 7, 7, 7, 7, 7, 7, 7, 7, 7, 7, 7, 8, 8, 8, 8, 8, 8, 8, 8, 8, 8, 8, 8, 8, 8, 8, 8, 8, 8, 8, 8, 8, 8, 8, 8, 8, 8, 8, 8, 8, 8, 8, 8, 8, 8, 8, 8, 8, 8, 8, 8, 8, 8, 8, 8, 8, 8, 8, 8, 8, 8, 8, 8, 8, 8, 8, 8, 8, 8, 8, 8, 8, 8, 8, 8, 8, 8, 8, 8, 8, 8, 8, 8, 8, 8, 8, 8, 8, 8, 8, 8, 8, 8, 8, 8, 8, 8, 8, 8, 8, 8, 8, 8, 8, 8, 8, 8, 8, 8, 8, 8, 8, 8, 8, 8, 8, 8, 8, 8, 8, 8, 8, 8, 8, 8, 8, 8, 8, 8, 8, 8, 8, 8, 8, 8, 8, 8, 8, 8]) (Int.toNat (Go.IntKind.wrap .u8 (Int.fdiv (Int.fdiv (Int.fdiv a 4294967296) 65536) 256))))))
 else
   none
 else
   bif inB (Go.IntKind.wrap .u8 (Int.fdiv (Int.fdiv a 4294967296) 65536)) 256 then
   (S.len64_gk a k) (Go.IntKind.wrap .i64 (48 + Go.IntKind.wrap .i64 (byteAt (bs [0, 1, 2, 2, 3, 3, 3, 3, 4, 4, 4, 4, 4, 4, 4, 4, 5, 5, 5, 5, 5, 5, 5, 5, 5, 5, 5, 5, 5, 5, 5, 5, 6, 6, 6, 6, 6, 6, 6, 6, 6, 6, 6, 6, 6, 6, 6, 6, 6, 6, 6, 6, 6, 6, 6, 6, 6, 6, 6, 6, 6, 6, 6, 6, 7, 7, 7, 7, 7, 7, 7, 7, 7, 7, 7, 7, 7, 7, 7, 7, 7, 7, 7, 7, 7, 7, 7, 7, 7, 7, 7, 7, 7, 7, 7, 7, 7, 7, 7, 7, 7, 7, 7, 7, 7, 7, 7, 7, 7, 7, 7, 7, 7, 7, 7, 7, 7, 7, 7, 7, 7, 7, 7, 7, 7, 7, 7, 7, 8, 8, 8, 8, 8, 8, 8, 8, 8, 8, 8, 8, 8, 8, 8, 8, 8, 8, 8, 8, 8, 8, 8, 8, 8, 8, 8, 8, 8, 8, 8, 8, 8, 8, 8, 8, 8, 8, 8, 8, 8, 8, 8, 8, 8, 8, 8, 8, 8, 8, 8, 8, 8, 8, 8, 8, 8, 8, 8, 8, 8, 8, 8, 8, 8, 8, 8, 8, 8, 8, 8, 8, 8, 8, 8, 8, 8, 8, 8, 8, 8, 8, 8, 8, 8, 8, 8, 8, 8, 8, 8, 8, 8, 8, 8, 8, 8, 8, 8, 8, 8, 8, 8, 8, 8, 8, 8, 8, 8, 8, 8, 8, 8, 8, 8, 8, 8, 8, 8, 8, 8, 8, 8, 8, 8, 8, 8, 8]) (Int.toNat (Go.IntKind.wrap .u8 (Int.fdiv (Int.fdiv a 4294967296) 65536))))))
 else
   none
 else
   bif decide (256 ≤ Int.fdiv a 4294967296) then
   bif inB (Go.IntKind.wrap .u8 (Int.fdiv (Int.fdiv a 4294967296) 256)) 256 then
   (S.len64_gk a k) (Go.IntKind.wrap .i64 (40 + Go.IntKind.wrap .i64 (byteAt (bs [0, 1, 2, 2, 3, 3, 3, 3, 4, 4, 4, 4, 4, 4, 4, 4, 5, 5, 5, 5, 5, 5, 5, 5, 5, 5, 5, 5, 5, 5, 5, 5, 6, 6, 6, 6, 6, 6, 6, 6, 6, 6, 6, 6, 6, 6, 6, 6, 6, 6, 6, 6, 6, 6, 6, 6, 6, 6, 6, 6, 6, 6, 6, 6, 7, 7, 7, 7, 7, 7, 7, 7, 7, 7, 7, 7, 7, 7, 7, 7, 7, 7, 7, 7, 7, 7, 7, 7, 7, 7, 7, 7, 7, 7, 7, 7, 7, 7, 7, 7, 7, 7, 7, 7, 7, 7, 7, 7, 7, 7, 7, 7, 7, 7, 7, 7, 7, 7, 7, 7, 7, 7, 7, 7, 7, 7, 7, 7, 8, 8, 8, 8, 8, 8, 8, 8, 8, 8, 8, 8, 8, 8, 8, 8, 8, 8, 8, 8, 8, 8, 8, 8, 8, 8, 8, 8, 8, 8, 8, 8, 8, 8, 8, 8, 8, 8, 8, 8, 8, 8, 8, 8, 8, 8, 8, 8, 8, 8, 8, 8, 8, 8, 8, 8, 8, 8, 8, 8, 8, 8, 8, 8, 8, 8, 8, 8, 8, 8, 8, 8, 8, 8, 8, 8, 8, 8, 8, 8, 8, 8, 8, 8, 8, 8, 8, 8, 8, 8, 8, 8, 8, 8, 8, 8, 8, 8, 8, 8, 8, 8, 8, 8, 8, 8, 8, 8, 8, 8, 8, 8, 8, 8, 8, 8, 8, 8, 8, 8, 8, 8, 8, 8, 8, 8, 8, 8]) (Int.toNat (Go.IntKind.wrap .u8 (Int.fdiv (Int.fdiv a 4294967296) 256))))))
 else
   none
 else
   bif inB (Go.IntKind.wrap .u8 (Int.fdiv a 4294967296)) 256 then
   (S.len64_gk a k) (Go.IntKind.wrap .i64 (32 + Go.IntKind.wrap .i64 (byteAt (bs [0, 1, 2, 2, 3, 3, 3, 3, 4, 4, 4, 4, 4, 4, 4, 4, 5, 5, 5, 5, 5, 5, 5, 5, 5, 5, 5, 5, 5, 5, 5, 5, 6, 6, 6, 6, 6, 6, 6, 6, 6, 6, 6, 6, 6, 6, 6, 6, 6, 6, 6, 6, 6, 6, 6, 6, 6, 6, 6, 6, 6, 6, 6, 6, 7, 7, 7, 7, 7, 7, 7, 7, 7, 7, 7, 7, 7, 7, 7, 7, 7, 7, 7, 7, 7, 7, 7, 7, 7, 7, 7, 7, 7, 7, 7, 7, 7, 7, 7, 7, 7, 7, 7, 7, 7, 7, 7, 7, 7, 7, 7, 7, 7, 7, 7, 7, 7, 7, 7, 7, 7, 7, 7, 7, 7, 7, 7, 7, 8, 8, 8, 8, 8, 8, 8, 8, 8, 8, 8, 8, 8, 8, 8, 8, 8, 8, 8, 8, 8, 8, 8, 8, 8, 8, 8, 8, 8, 8, 8, 8, 8, 8, 8, 8, 8, 8, 8, 8, 8, 8, 8, 8, 8, 8, 8, 8, 8, 8, 8, 8, 8, 8, 8, 8, 8, 8, 8, 8, 8, 8, 8, 8, 8, 8, 8, 8, 8, 8, 8, 8, 8, 8, 8, 8, 8, 8, 8, 8, 8, 8, 8, 8, 8, 8, 8, 8, 8, 8, 8, 8, 8, 8, 8, 8, 8, 8, 8, 8, 8, 8, 8, 8, 8, 8, 8, 8, 8, 8, 8, 8, 8, 8, 8, 8, 8, 8, 8, 8, 8, 8, 8, 8, 8, 8, 8, 8]) (Int.toNat (Go.IntKind.wrap .u8 (Int.fdiv a 4294967296))))))
 else
   none
 else
   bif decide (65536 ≤ a) then
   bif decide (256 ≤ Int.fdiv a 65536) then
   bif inB (Go.IntKind.wrap .u8 (Int.fdiv (Int.fdiv a 65536) 256)) 256 then
   (S.len64_gk a k) (Go.IntKind.wrap .i64 (24 + Go.IntKind.wrap .i64 (byteAt (bs [0, 1, 2, 2, 3, 3, 3, 3, 4, 4, 4, 4, 4, 4, 4, 4, 5, 5, 5, 5, 5, 5, 5, 5, 5, 5, 5, 5, 5, 5, 5, 5, 6, 6, 6, 6, 6, 6, 6, 6, 6, 6, 6, 6, 6, 6, 6, 6, 6, 6, 6, 6, 6, 6, 6, 6, 6, 6, 6, 6, 6, 6, 6, 6, 7, 7, 7, 7, 7, 7, 7, 7, 7, 7, 7, 7, 7, 7, 7, 7, 7, 7, 7, 7, 7, 7, 7, 7, 7, 7, 7, 7, 7, 7, 7, 7, 7, 7, 7, 7, 7, 7, 7, 7, 7, 7, 7, 7, 7, 7, 7, 7, 7, 7, 7, 7, 7, 7, 7, 7, 7, 7, 7, 7, 7, 7, 7, 7, 8, 8, 8, 8, 8, 8, 8, 8, 8, 8, 8, 8, 8, 8, 8, 8, 8, 8, 8, 8, 8, 8, 8, 8, 8, 8, 8, 8, 8, 8, 8, 8, 8, 8, 8, 8, 8, 8, 8, 8, 8, 8, 8, 8, 8, 8, 8, 8, 8, 8, 8, 8, 8, 8, 8, 8, 8, 8, 8, 8, 8, 8, 8, 8, 8, 8, 8, 8, 8, 8, 8, 8, 8, 8, 8, 8, 8, 8, 8, 8, 8, 8, 8, 8, 8, 8, 8, 8, 8, 8, 8, 8, 8, 8, 8, 8, 8, 8, 8, 8, 8, 8, 8, 8, 8, 8, 8, 8, 8, 8, 8, 8, 8, 8, 8, 8, 8, 8, 8, 8, 8, 8, 8, 8, 8, 8, 8, 8]) (Int.toNat (Go.IntKind.wrap .u8 (Int.fdiv (Int.fdiv a 65536) 256))))))
 else
   none
 else
   bif inB (Go.IntKind.wrap .u8 (Int.fdiv a 65536)) 256 then
   (S.len64_gk a k) (Go.IntKind.wrap .i64 (16 + Go.IntKind.wrap .i64 (byteAt (bs [0, 1, 2, 2, 3, 3, 3, 3, 4, 4, 4, 4, 4, 4, 4, 4, 5, 5, 5, 5, 5, 5, 5, 5, 5, 5, 5, 5, 5, 5, 5, 5, 6, 6, 6, 6, 6, 6, 6, 6, 6, 6, 6, 6, 6, 6, 6, 6, 6, 6, 6, 6, 6, 6, 6, 6, 6, 6, 6, 6, 6, 6, 6, 6, 7, 7, 7, 7, 7, 7, 7, 7, 7, 7, 7, 7, 7, 7, 7, 7, 7, 7, 7, 7, 7, 7, 7, 7, 7, 7, 7, 7, 7, 7, 7, 7, 7, 7, 7, 7, 7, 7, 7, 7, 7, 7, 7, 7, 7, 7, 7, 7, 7, 7, 7, 7, 7, 7, 7, 7, 7, 7, 7, 7, 7, 7, 7, 7, 8, 8, 8, 8, 8, 8, 8, 8, 8, 8, 8, 8, 8, 8, 8, 8, 8, 8, 8, 8, 8, 8, 8, 8, 8, 8, 8, 8, 8, 8, 8, 8, 8, 8, 8, 8, 8, 8, 8, 8, 8, 8, 8, 8, 8, 8, 8, 8, 8, 8, 8, 8, 8, 8, 8, 8, 8, 8, 8, 8, 8, 8, 8, 8, 8, 8, 8, 8, 8, 8, 8, 8, 8, 8, 8, 8, 8, 8, 8, 8, 8, 8, 8, 8, 8, 8, 8, 8, 8, 8, 8, 8, 8, 8, 8, 8, 8, 8, 8, 8, 8, 8, 8, 8, 8, 8, 8, 8, 8, 8, 8, 8, 8, 8, 8, 8, 8, 8, 8, 8, 8, 8, 8, 8, 8, 8, 8, 8]) (Int.toNat (Go.IntKind.wrap .u8 (Int.fdiv a 65536))))))
 else
   none
 else
   bif decide (256 ≤ a) then
   bif inB (Go.IntKind.wrap .u8 (Int.fdiv a 256)) 256 then
   (S.len64_gk a k) (Go.IntKind.wrap .i64 (8 + Go.IntKind.wrap .i64 (byteAt (bs [0, 1, 2, 2, 3, 3, 3, 3, 4, 4, 4, 4, 4, 4, 4, 4, 5, 5, 5, 5, 5, 5, 5, 5, 5, 5, 5, 5, 5, 5, 5, 5, 6, 6, 6, 6, 6, 6, 6, 6, 6, 6, 6, 6, 6, 6, 6, 6, 6, 6, 6, 6, 6, 6, 6, 6, 6, 6, 6, 6, 6, 6, 6, 6, 7, 7, 7, 7, 7, 7, 7, 7, 7, 7, 7, 7, 7, 7, 7, 7, 7, 7, 7, 7, 7, 7, 7, 7, 7, 7, 7, 7, 7, 7, 7, 7, 7, 7, 7, 7, 7, 7, 7, 7, 7, 7, 7, 7, 7, 7, 7, 7, 7, 7, 7, 7, 7, 7, 7, 7, 7, 7, 7, 7, 7, 7, 7, 7, 8, 8, 8, 8, 8, 8, 8, 8, 8, 8, 8, 8, 8, 8, 8, 8, 8, 8, 8, 8, 8, 8, 8, 8, 8, 8, 8, 8, 8, 8, 8, 8, 8, 8, 8, 8, 8, 8, 8, 8, 8, 8, 8, 8, 8, 8, 8, 8, 8, 8, 8, 8, 8, 8, 8, 8, 8, 8, 8, 8, 8, 8, 8, 8, 8, 8, 8, 8, 8, 8, 8, 8, 8, 8, 8, 8, 8, 8, 8, 8, 8, 8, 8, 8, 8, 8, 8, 8, 8, 8, 8, 8, 8, 8, 8, 8, 8, 8, 8, 8, 8, 8, 8, 8, 8, 8, 8, 8, 8, 8, 8, 8, 8, 8, 8, 8, 8, 8, 8, 8, 8, 8, 8, 8, 8, 8, 8, 8]) (Int.toNat (Go.IntKind.wrap .u8 (Int.fdiv a 256))))))
 else
   none
 else
   bif inB (Go.IntKind.wrap .u8 a) 256 then
   (S.len64_gk a k) (Go.IntKind.wrap .i64 (0 + Go.IntKind.wrap .i64 (byteAt (bs [0, 1, 2, 2, 3, 3, 3, 3, 4, 4, 4, 4, 4, 4, 4, 4, 5, 5, 5, 5, 5, 5, 5, 5, 5, 5, 5, 5, 5, 5, 5, 5, 6, 6, 6, 6, 6, 6, 6, 6, 6, 6, 6, 6, 6, 6, 6, 6, 6, 6, 6, 6, 6, 6, 6, 6, 6, 6, 6, 6, 6, 6, 6, 6, 7, 7, 7, 7, 7, 7, 7, 7, 7, 7, 7, 7, 7, 7, 7, 7, 7, 7, 7, 7, 7, 7, 7, 7, 7, 7, 7, 7, 7, 7, 7, 7, 7, 7, 7, 7, 7, 7, 7, 7, 7, 7, 7, 7, 7, 7, 7, 7, 7, 7, 7, 7, 7, 7, 7, 7, 7, 7, 7, 7, 7, 7, 7, 7, 8, 8, 8, 8, 8, 8, 8, 8, 8, 8, 8, 8, 8, 8, 8, 8, 8, 8, 8, 8, 8, 8, 8, 8, 8, 8, 8, 8, 8, 8, 8, 8, 8, 8, 8, 8, 8, 8, 8, 8, 8, 8, 8, 8, 8, 8, 8, 8, 8, 8, 8, 8, 8, 8, 8, 8, 8, 8, 8, 8, 8, 8, 8, 8, 8, 8, 8, 8, 8, 8, 8, 8, 8, 8, 8, 8, 8, 8, 8, 8, 8, 8, 8, 8, 8, 8, 8, 8, 8, 8, 8, 8, 8, 8, 8, 8, 8, 8, 8, 8, 8, 8, 8, 8, 8, 8, 8, 8, 8, 8, 8, 8, 8, 8, 8, 8, 8, 8, 8, 8, 8, 8, 8, 8, 8, 8, 8, 8]) (Int.toNat (Go.IntKind.wrap .u8 a)))))
 else
   none)) (by kernel_rfl) (bif_lift (f := (oK (S.len64_gk a k))) (bif_lift (f := (oK (S.len64_gk a k))) (bif_lift (f := (oK (S.len64_gk a k))) (bif_lift (f := (oK (S.len64_gk a k))) rfl rfl) (bif_lift (f := (oK (S.len64_gk a k))) rfl rfl)) (bif_lift (f := (oK (S.len64_gk a k))) (bif_lift (f := (oK (S.len64_gk a k))) rfl rfl) (bif_lift (f := (oK (S.len64_gk a k))) rfl rfl))) (bif_lift (f := (oK (S.len64_gk a k))) (bif_lift (f := (oK (S.len64_gk a k))) (bif_lift (f := (oK (S.len64_gk a k))) rfl rfl) (bif_lift (f := (oK (S.len64_gk a k))) rfl rfl)) (bif_lift (f := (oK (S.len64_gk a k))) (bif_lift (f := (oK (S.len64_gk a k))) rfl rfl) (bif_lift (f := (oK (S.len64_gk a k))) rfl rfl))))
def H121 : Hnd := fun R args σ k => match args, σ with
  | [.int .u64 a], [] => oK (fun v : Int => k (.int .i64 v) []) (S.len64 a)
  | _, _ => none
theorem H121_ok : HndOk Tryz.prog 121 H121 := hnd_ok tis tisOk mixOk G113_ok F121 Tryz.func121 rfl (by
  intro R args σ k r h
  unfold H121 at h
  split at h
  · rename_i a; exact ⟨0, (S.len64_v a _).trans h⟩
  · cases h)
def G121 : Env := Env.add 121 H121 G113
theorem G121_ok : EnvOk Tryz.prog G121 := envAdd_ok H121_ok G113_ok

/-! math/bits.LeadingZeros64 -/
def F120 : FCfg := ⟨keepAt [(0, [0]), (1, [2])], loopAt [], []⟩
noncomputable def S.lz64_L {R : Type} (a : Int) (k : AVal → List Blk → Option R) : Option R := fnEval tis F120 0 G121 Tryz.f120 [.int .u64 a] [] k
noncomputable def S.lz64_gk {R : Type} (a : Int) (k : AVal → List Blk → Option R) : (Int) → Option R := (fun v : Int => k (.int .i64 v) [])
def S.lz64 (a : Int) : Option (Int) :=
  (optK (S.len64 a) fun o2 =>
   some (Go.IntKind.wrap .i64 (64 - o2)))
theorem S.lz64_v {R : Type} (a : Int) (k : AVal → List Blk → Option R) : S.lz64_L a k = oK (S.lz64_gk a k) (S.lz64 a) :=
  Eq.trans (b := ((optK (S.len64 a) fun o2 =>
   (S.lz64_gk a k) (Go.IntKind.wrap .i64 (64 - o2))))) (by kernel_rfl) (opt_lift fun o2 => rfl)
def H120 : Hnd := fun R args σ k => match args, σ with
  | [.int .u64 a], [] => oK (fun v : Int => k (.int .i64 v) []) (S.lz64 a)
  | _, _ => none
theorem H120_ok : HndOk Tryz.prog 120 H120 := hnd_ok tis tisOk mixOk G121_ok F120 Tryz.func120 rfl (by
  intro R args σ k r h
  unfold H120 at h
  split at h
  · rename_i a; exact ⟨0, (S.lz64_v a _).trans h⟩
  · cases h)
def G120 : Env := Env.add 120 H120 G121
theorem G120_ok : EnvOk Tryz.prog G120 := envAdd_ok H120_ok G121_ok

/-! math/bits.Div64 -/
def F115 : FCfg := ⟨keepAt [(0, [0, 1, 2]), (1, [0, 1, 2, 20]), (2, [0, 1, 2]), (3, [0, 1, 2, 24]), (4, [0, 1, 2]), (5, [0, 1, 2, 27]), (6, [6, 7]), (7, [0, 1, 2, 8]), (8, [0, 1, 2, 8]), (9, [0, 1, 2, 8, 9]), (10, [0, 1, 2, 8, 9, 10]), (11, [1, 2, 8, 9, 10, 11]), (12, [2, 8, 9, 10, 11, 12]), (13, [2, 8, 9, 10, 11, 12, 13]), (14, [2, 8, 9, 10, 11, 13, 14]), (15, [2, 8, 9, 10, 11, 13, 14, 15]), (16, [2, 8, 9, 10, 11, 13, 14, 15, 16]), (17, [2, 8, 9, 10, 11, 13, 14, 15, 16, 78]), (18, [2, 8, 9, 10, 11, 13, 14, 15, 16]), (19, [2, 8, 9, 10, 11, 13, 14, 15, 16]), (20, [2, 8, 9, 10, 11, 13, 14, 15, 16, 85]), (21, [2, 8, 9, 10, 14, 15, 17]), (22, [2, 8, 9, 10, 14, 15, 17, 18]), (23, [2, 8, 9, 10, 14, 15, 16, 17, 18]), (24, [2, 8, 9, 10, 14, 15, 16, 17, 18, 113]), (25, [2, 8, 9, 10, 14, 15, 16, 17, 18]), (26, [2, 8, 9, 10, 14, 15, 16, 17, 18]), (27, [2, 8, 9, 10, 14, 15, 16, 17, 18, 120]), (28, [6, 7])], loopAt [(17, [2, 8, 9, 10, 11, 13, 14, 15, 16], []), (24, [2, 8, 9, 10, 14, 15, 16, 17, 18], [])], []⟩
noncomputable def C_div64 (fu : Nat) (hi lo b : Int) : Cfg := Cfg.of tis F115 fu (List.length ([] : List Blk)) Tryz.f115.ntmps
noncomputable def S.div64_b0 : Code := codeAt (bodyOf Tryz.f115) [1, 1, 1, 1, 1, 1, 1, 1, 1, 1, 1, 1, 1, 1, 0, 0, 0]
noncomputable def S.div64_b1 : Code := codeAt (bodyOf Tryz.f115) [1, 1, 1, 1, 1, 1, 1, 1, 1, 1, 1, 1, 1, 1, 1, 1, 1, 1, 0, 0, 0]
noncomputable def S.div64_s0 (hi lo b : Int) (y0 : Int) (y1 : Int) (y2 : Int) (y3 : Int) (y4 : Int) (y5 : Int) (y6 : Int) (y7 : Int) (y8 : Int) : St := ⟨[(2, (.int .u64 (y0))), (8, (.int .u64 (y1))), (9, (.int .u64 (y2))), (10, (.int .u64 (y3))), (11, (.int .u64 (y4))), (13, (.int .u64 (y5))), (14, (.int .u64 (y6))), (15, (.int .u64 (y7))), (16, (.int .u64 (y8)))], []⟩
noncomputable def S.div64_x0_0 (hi lo b : Int) (z0 : Int) (z1 : Int) (z2 : Int) (z3 : Int) (z4 : Int) (z5 : Int) (z6 : Int) (z7 : Int) (z8 : Int) (z9 : Bool) : St := ⟨[(2, (.int .u64 (z0))), (8, (.int .u64 (z1))), (9, (.int .u64 (z2))), (10, (.int .u64 (z3))), (11, (.int .u64 (z4))), (13, (.int .u64 (z5))), (14, (.int .u64 (z6))), (15, (.int .u64 (z7))), (16, (.int .u64 (z8))), (85, (.bool (z9)))], []⟩
noncomputable def S.div64_x0_1 (hi lo b : Int) (z0 : Int) (z1 : Int) (z2 : Int) (z3 : Int) (z4 : Int) (z5 : Int) (z6 : Int) (z7 : Int) (z8 : Int) (z9 : Bool) : St := ⟨[(2, (.int .u64 (z0))), (8, (.int .u64 (z1))), (9, (.int .u64 (z2))), (10, (.int .u64 (z3))), (11, (.int .u64 (z4))), (13, (.int .u64 (z5))), (14, (.int .u64 (z6))), (15, (.int .u64 (z7))), (16, (.int .u64 (z8))), (78, (.bool (z9)))], []⟩
noncomputable def S.div64_s1 (hi lo b : Int) (y0 : Int) (y1 : Int) (y2 : Int) (y3 : Int) (y4 : Int) (y5 : Int) (y6 : Int) (y7 : Int) (y8 : Int) : St := ⟨[(2, (.int .u64 (y0))), (8, (.int .u64 (y1))), (9, (.int .u64 (y2))), (10, (.int .u64 (y3))), (14, (.int .u64 (y4))), (15, (.int .u64 (y5))), (16, (.int .u64 (y6))), (17, (.int .u64 (y7))), (18, (.int .u64 (y8)))], []⟩
noncomputable def S.div64_x1_0 (hi lo b : Int) (z0 : Int) (z1 : Int) (z2 : Int) (z3 : Int) (z4 : Int) (z5 : Int) (z6 : Int) (z7 : Int) (z8 : Int) (z9 : Bool) : St := ⟨[(2, (.int .u64 (z0))), (8, (.int .u64 (z1))), (9, (.int .u64 (z2))), (10, (.int .u64 (z3))), (14, (.int .u64 (z4))), (15, (.int .u64 (z5))), (16, (.int .u64 (z6))), (17, (.int .u64 (z7))), (18, (.int .u64 (z8))), (120, (.bool (z9)))], []⟩
noncomputable def S.div64_x1_1 (hi lo b : Int) (z0 : Int) (z1 : Int) (z2 : Int) (z3 : Int) (z4 : Int) (z5 : Int) (z6 : Int) (z7 : Int) (z8 : Int) (z9 : Bool) : St := ⟨[(2, (.int .u64 (z0))), (8, (.int .u64 (z1))), (9, (.int .u64 (z2))), (10, (.int .u64 (z3))), (14, (.int .u64 (z4))), (15, (.int .u64 (z5))), (16, (.int .u64 (z6))), (17, (.int .u64 (z7))), (18, (.int .u64 (z8))), (113, (.bool (z9)))], []⟩
noncomputable def S.div64_g0 {R : Type} (hi lo b : Int) (K : Ex → St → Option R) : ((Int × Int × Int × Int × Int × Int × Int × Int × Int × Bool) ⊕ (Int × Int × Int × Int × Int × Int × Int × Int × Int × Bool)) → Option R := (Sum.elim (fun z : Int × Int × Int × Int × Int × Int × Int × Int × Int × Bool => K (Ex.exit 0) (S.div64_x0_0 hi lo b (z.1) (z.2.1) (z.2.2.1) (z.2.2.2.1) (z.2.2.2.2.1) (z.2.2.2.2.2.1) (z.2.2.2.2.2.2.1) (z.2.2.2.2.2.2.2.1) (z.2.2.2.2.2.2.2.2.1) (z.2.2.2.2.2.2.2.2.2))) (fun z : Int × Int × Int × Int × Int × Int × Int × Int × Int × Bool => K (Ex.exit 0) (S.div64_x0_1 hi lo b (z.1) (z.2.1) (z.2.2.1) (z.2.2.2.1) (z.2.2.2.2.1) (z.2.2.2.2.2.1) (z.2.2.2.2.2.2.1) (z.2.2.2.2.2.2.2.1) (z.2.2.2.2.2.2.2.2.1) (z.2.2.2.2.2.2.2.2.2))))
noncomputable def S.div64_g1 {R : Type} (hi lo b : Int) (K : Ex → St → Option R) : ((Int × Int × Int × Int × Int × Int × Int × Int × Int × Bool) ⊕ (Int × Int × Int × Int × Int × Int × Int × Int × Int × Bool)) → Option R := (Sum.elim (fun z : Int × Int × Int × Int × Int × Int × Int × Int × Int × Bool => K (Ex.exit 2) (S.div64_x1_0 hi lo b (z.1) (z.2.1) (z.2.2.1) (z.2.2.2.1) (z.2.2.2.2.1) (z.2.2.2.2.2.1) (z.2.2.2.2.2.2.1) (z.2.2.2.2.2.2.2.1) (z.2.2.2.2.2.2.2.2.1) (z.2.2.2.2.2.2.2.2.2))) (fun z : Int × Int × Int × Int × Int × Int × Int × Int × Int × Bool => K (Ex.exit 2) (S.div64_x1_1 hi lo b (z.1) (z.2.1) (z.2.2.1) (z.2.2.2.1) (z.2.2.2.2.1) (z.2.2.2.2.2.1) (z.2.2.2.2.2.2.1) (z.2.2.2.2.2.2.2.1) (z.2.2.2.2.2.2.2.2.1) (z.2.2.2.2.2.2.2.2.2))))
noncomputable def S.div64_gk {R : Type} (hi lo b : Int) (k : AVal → List Blk → Option R) : (Int × Int) → Option R := (fun v : Int × Int => k (.tuple [(.int .u64 v.1), (.int .u64 v.2)]) [])
theorem S.div64_l1_k {R : Type} (fu : Nat) (hi lo b : Int) (n : Nat) (K : Ex → St → Option R) (y0 : Int) (y1 : Int) (y2 : Int) (y3 : Int) (y4 : Int) (y5 : Int) (y6 : Int) (y7 : Int) (y8 : Int) : loopRun (C_div64 fu hi lo b) G120 S.div64_b1 (n + 1) (S.div64_s1 hi lo b (y0) (y1) (y2) (y3) (y4) (y5) (y6) (y7) (y8)) K =
  (bif decide (4294967296 ≤ y8) then
   bif decide (4294967296 ≤ Go.IntKind.wrap .u64 (y6 + y2)) then
   K (Ex.exit 2) (S.div64_x1_0 hi lo b (y0) (y1) (y2) (y3) (y4) (y5) (Go.IntKind.wrap .u64 (y6 + y2)) (y7) (Go.IntKind.wrap .u64 (y8 - 1)) (decide (4294967296 ≤ Go.IntKind.wrap .u64 (y6 + y2))))
 else
   loopRun (C_div64 fu hi lo b) G120 S.div64_b1 n (S.div64_s1 hi lo b (y0) (y1) (y2) (y3) (y4) (y5) (Go.IntKind.wrap .u64 (y6 + y2)) (y7) (Go.IntKind.wrap .u64 (y8 - 1))) K
 else
   bif decide (Go.IntKind.wrap .u64 (Go.IntKind.wrap .u64 (4294967296 * y6) + y4) < Go.IntKind.wrap .u64 (y8 * y3)) then
   bif decide (4294967296 ≤ Go.IntKind.wrap .u64 (y6 + y2)) then
   K (Ex.exit 2) (S.div64_x1_0 hi lo b (y0) (y1) (y2) (y3) (y4) (y5) (Go.IntKind.wrap .u64 (y6 + y2)) (y7) (Go.IntKind.wrap .u64 (y8 - 1)) (decide (4294967296 ≤ Go.IntKind.wrap .u64 (y6 + y2))))
 else
   loopRun (C_div64 fu hi lo b) G120 S.div64_b1 n (S.div64_s1 hi lo b (y0) (y1) (y2) (y3) (y4) (y5) (Go.IntKind.wrap .u64 (y6 + y2)) (y7) (Go.IntKind.wrap .u64 (y8 - 1))) K
 else
   K (Ex.exit 2) (S.div64_x1_1 hi lo b (y0) (y1) (y2) (y3) (y4) (y5) (y6) (y7) (y8) (decide (Go.IntKind.wrap .u64 (Go.IntKind.wrap .u64 (4294967296 * y6) + y4) < Go.IntKind.wrap .u64 (y8 * y3))))) := by kernel_rfl
def S.div64_l1 (fu : Nat) (hi lo b : Int) : Nat → (Int) → (Int) → (Int) → (Int) → (Int) → (Int) → (Int) → (Int) → (Int) → Option ((Int × Int × Int × Int × Int × Int × Int × Int × Int × Bool) ⊕ (Int × Int × Int × Int × Int × Int × Int × Int × Int × Bool))
  | 0, _, _, _, _, _, _, _, _, _ => none
  | n + 1, y0, y1, y2, y3, y4, y5, y6, y7, y8 =>
    bif decide (4294967296 ≤ y8) then
   bif decide (4294967296 ≤ Go.IntKind.wrap .u64 (y6 + y2)) then
   some (.inl (y0, y1, y2, y3, y4, y5, Go.IntKind.wrap .u64 (y6 + y2), y7, Go.IntKind.wrap .u64 (y8 - 1), decide (4294967296 ≤ Go.IntKind.wrap .u64 (y6 + y2))))
 else
   (S.div64_l1 fu hi lo b n) (y0) (y1) (y2) (y3) (y4) (y5) (Go.IntKind.wrap .u64 (y6 + y2)) (y7) (Go.IntKind.wrap .u64 (y8 - 1))
 else
   bif decide (Go.IntKind.wrap .u64 (Go.IntKind.wrap .u64 (4294967296 * y6) + y4) < Go.IntKind.wrap .u64 (y8 * y3)) then
   bif decide (4294967296 ≤ Go.IntKind.wrap .u64 (y6 + y2)) then
   some (.inl (y0, y1, y2, y3, y4, y5, Go.IntKind.wrap .u64 (y6 + y2), y7, Go.IntKind.wrap .u64 (y8 - 1), decide (4294967296 ≤ Go.IntKind.wrap .u64 (y6 + y2))))
 else
   (S.div64_l1 fu hi lo b n) (y0) (y1) (y2) (y3) (y4) (y5) (Go.IntKind.wrap .u64 (y6 + y2)) (y7) (Go.IntKind.wrap .u64 (y8 - 1))
 else
   some (.inr (y0, y1, y2, y3, y4, y5, y6, y7, y8, decide (Go.IntKind.wrap .u64 (Go.IntKind.wrap .u64 (4294967296 * y6) + y4) < Go.IntKind.wrap .u64 (y8 * y3))))
theorem S.div64_l1_v {R : Type} (fu : Nat) (hi lo b : Int) (K : Ex → St → Option R) : ∀ (n : Nat) (y0 : Int) (y1 : Int) (y2 : Int) (y3 : Int) (y4 : Int) (y5 : Int) (y6 : Int) (y7 : Int) (y8 : Int), loopRun (C_div64 fu hi lo b) G120 S.div64_b1 n (S.div64_s1 hi lo b (y0) (y1) (y2) (y3) (y4) (y5) (y6) (y7) (y8)) K = oK (β := (Int × Int × Int × Int × Int × Int × Int × Int × Int × Bool) ⊕ (Int × Int × Int × Int × Int × Int × Int × Int × Int × Bool)) (S.div64_g1 hi lo b K) (S.div64_l1 fu hi lo b n y0 y1 y2 y3 y4 y5 y6 y7 y8)
  | 0, _, _, _, _, _, _, _, _, _ => rfl
  | n + 1, y0, y1, y2, y3, y4, y5, y6, y7, y8 => (S.div64_l1_k fu hi lo b n K y0 y1 y2 y3 y4 y5 y6 y7 y8).trans (bif_lift (f := (oK (S.div64_g1 hi lo b K))) (bif_lift (f := (oK (S.div64_g1 hi lo b K))) rfl (S.div64_l1_v fu hi lo b K n (y0) (y1) (y2) (y3) (y4) (y5) (Go.IntKind.wrap .u64 (y6 + y2)) (y7) (Go.IntKind.wrap .u64 (y8 - 1)))) (bif_lift (f := (oK (S.div64_g1 hi lo b K))) (bif_lift (f := (oK (S.div64_g1 hi lo b K))) rfl (S.div64_l1_v fu hi lo b K n (y0) (y1) (y2) (y3) (y4) (y5) (Go.IntKind.wrap .u64 (y6 + y2)) (y7) (Go.IntKind.wrap .u64 (y8 - 1)))) rfl))
def S.div64_a1_1 (fu : Nat) (hi lo b : Int) (z0 : Int) (z1 : Int) (z2 : Int) (z3 : Int) (z4 : Int) (z5 : Int) (z6 : Int) (z7 : Int) (z8 : Int) (z9 : Bool) : Option (Int × Int) :=
  bif decide (z1 < 0) then
   none
 else
   some (Go.IntKind.wrap .u64 (Go.IntKind.wrap .u64 (z5 * 4294967296) + z8), Int.fdiv (Go.IntKind.wrap .u64 (Go.IntKind.wrap .u64 (Go.IntKind.wrap .u64 (z7 * 4294967296) + z4) - Go.IntKind.wrap .u64 (z8 * z0))) (2 ^ Min.min (Int.toNat z1) 64))
theorem S.div64_a1_1_v {R : Type} (fu : Nat) (hi lo b : Int) (z0 : Int) (z1 : Int) (z2 : Int) (z3 : Int) (z4 : Int) (z5 : Int) (z6 : Int) (z7 : Int) (z8 : Int) (z9 : Bool) (k : AVal → List Blk → Option R) : contOf (C_div64 fu hi lo b) G120 (bodyOf Tryz.f115) [1, 1, 1, 1, 1, 1, 1, 1, 1, 1, 1, 1, 1, 1, 1, 1, 1, 1, 0, 0] (retK tis F115 Tryz.f115 (List.length ([] : List Blk)) k) (Ex.exit 2) (S.div64_x1_1 hi lo b (z0) (z1) (z2) (z3) (z4) (z5) (z6) (z7) (z8) (z9)) = oK (S.div64_gk hi lo b k) (S.div64_a1_1 fu hi lo b z0 z1 z2 z3 z4 z5 z6 z7 z8 z9) :=
  Eq.trans (b := (bif decide (z1 < 0) then
   none
 else
   (S.div64_gk hi lo b k) (Go.IntKind.wrap .u64 (Go.IntKind.wrap .u64 (z5 * 4294967296) + z8), Int.fdiv (Go.IntKind.wrap .u64 (Go.IntKind.wrap .u64 (Go.IntKind.wrap .u64 (z7 * 4294967296) + z4) - Go.IntKind.wrap .u64 (z8 * z0))) (2 ^ Min.min (Int.toNat z1) 64)))) (by kernel_rfl) (bif_lift (f := (oK (S.div64_gk hi lo b k))) rfl rfl)
def S.div64_a1_0 (fu : Nat) (hi lo b : Int) (z0 : Int) (z1 : Int) (z2 : Int) (z3 : Int) (z4 : Int) (z5 : Int) (z6 : Int) (z7 : Int) (z8 : Int) (z9 : Bool) : Option (Int × Int) :=
  bif decide (z1 < 0) then
   none
 else
   some (Go.IntKind.wrap .u64 (Go.IntKind.wrap .u64 (z5 * 4294967296) + z8), Int.fdiv (Go.IntKind.wrap .u64 (Go.IntKind.wrap .u64 (Go.IntKind.wrap .u64 (z7 * 4294967296) + z4) - Go.IntKind.wrap .u64 (z8 * z0))) (2 ^ Min.min (Int.toNat z1) 64))
theorem S.div64_a1_0_v {R : Type} (fu : Nat) (hi lo b : Int) (z0 : Int) (z1 : Int) (z2 : Int) (z3 : Int) (z4 : Int) (z5 : Int) (z6 : Int) (z7 : Int) (z8 : Int) (z9 : Bool) (k : AVal → List Blk → Option R) : contOf (C_div64 fu hi lo b) G120 (bodyOf Tryz.f115) [1, 1, 1, 1, 1, 1, 1, 1, 1, 1, 1, 1, 1, 1, 1, 1, 1, 1, 0, 0] (retK tis F115 Tryz.f115 (List.length ([] : List Blk)) k) (Ex.exit 2) (S.div64_x1_0 hi lo b (z0) (z1) (z2) (z3) (z4) (z5) (z6) (z7) (z8) (z9)) = oK (S.div64_gk hi lo b k) (S.div64_a1_0 fu hi lo b z0 z1 z2 z3 z4 z5 z6 z7 z8 z9) :=
  Eq.trans (b := (bif decide (z1 < 0) then
   none
 else
   (S.div64_gk hi lo b k) (Go.IntKind.wrap .u64 (Go.IntKind.wrap .u64 (z5 * 4294967296) + z8), Int.fdiv (Go.IntKind.wrap .u64 (Go.IntKind.wrap .u64 (Go.IntKind.wrap .u64 (z7 * 4294967296) + z4) - Go.IntKind.wrap .u64 (z8 * z0))) (2 ^ Min.min (Int.toNat z1) 64)))) (by kernel_rfl) (bif_lift (f := (oK (S.div64_gk hi lo b k))) rfl rfl)
theorem S.div64_l0_k {R : Type} (fu : Nat) (hi lo b : Int) (n : Nat) (K : Ex → St → Option R) (y0 : Int) (y1 : Int) (y2 : Int) (y3 : Int) (y4 : Int) (y5 : Int) (y6 : Int) (y7 : Int) (y8 : Int) : loopRun (C_div64 fu hi lo b) G120 S.div64_b0 (n + 1) (S.div64_s0 hi lo b (y0) (y1) (y2) (y3) (y4) (y5) (y6) (y7) (y8)) K =
  (bif decide (4294967296 ≤ y7) then
   bif decide (4294967296 ≤ Go.IntKind.wrap .u64 (y8 + y2)) then
   K (Ex.exit 0) (S.div64_x0_0 hi lo b (y0) (y1) (y2) (y3) (y4) (y5) (y6) (Go.IntKind.wrap .u64 (y7 - 1)) (Go.IntKind.wrap .u64 (y8 + y2)) (decide (4294967296 ≤ Go.IntKind.wrap .u64 (y8 + y2))))
 else
   loopRun (C_div64 fu hi lo b) G120 S.div64_b0 n (S.div64_s0 hi lo b (y0) (y1) (y2) (y3) (y4) (y5) (y6) (Go.IntKind.wrap .u64 (y7 - 1)) (Go.IntKind.wrap .u64 (y8 + y2))) K
 else
   bif decide (Go.IntKind.wrap .u64 (Go.IntKind.wrap .u64 (4294967296 * y8) + y5) < Go.IntKind.wrap .u64 (y7 * y3)) then
   bif decide (4294967296 ≤ Go.IntKind.wrap .u64 (y8 + y2)) then
   K (Ex.exit 0) (S.div64_x0_0 hi lo b (y0) (y1) (y2) (y3) (y4) (y5) (y6) (Go.IntKind.wrap .u64 (y7 - 1)) (Go.IntKind.wrap .u64 (y8 + y2)) (decide (4294967296 ≤ Go.IntKind.wrap .u64 (y8 + y2))))
 else
   loopRun (C_div64 fu hi lo b) G120 S.div64_b0 n (S.div64_s0 hi lo b (y0) (y1) (y2) (y3) (y4) (y5) (y6) (Go.IntKind.wrap .u64 (y7 - 1)) (Go.IntKind.wrap .u64 (y8 + y2))) K
 else
   K (Ex.exit 0) (S.div64_x0_1 hi lo b (y0) (y1) (y2) (y3) (y4) (y5) (y6) (y7) (y8) (decide (Go.IntKind.wrap .u64 (Go.IntKind.wrap .u64 (4294967296 * y8) + y5) < Go.IntKind.wrap .u64 (y7 * y3))))) := by kernel_rfl
def S.div64_l0 (fu : Nat) (hi lo b : Int) : Nat → (Int) → (Int) → (Int) → (Int) → (Int) → (Int) → (Int) → (Int) → (Int) → Option ((Int × Int × Int × Int × Int × Int × Int × Int × Int × Bool) ⊕ (Int × Int × Int × Int × Int × Int × Int × Int × Int × Bool))
  | 0, _, _, _, _, _, _, _, _, _ => none
  | n + 1, y0, y1, y2, y3, y4, y5, y6, y7, y8 =>
    bif decide (4294967296 ≤ y7) then
   bif decide (4294967296 ≤ Go.IntKind.wrap .u64 (y8 + y2)) then
   some (.inl (y0, y1, y2, y3, y4, y5, y6, Go.IntKind.wrap .u64 (y7 - 1), Go.IntKind.wrap .u64 (y8 + y2), decide (4294967296 ≤ Go.IntKind.wrap .u64 (y8 + y2))))
 else
   (S.div64_l0 fu hi lo b n) (y0) (y1) (y2) (y3) (y4) (y5) (y6) (Go.IntKind.wrap .u64 (y7 - 1)) (Go.IntKind.wrap .u64 (y8 + y2))
 else
   bif decide (Go.IntKind.wrap .u64 (Go.IntKind.wrap .u64 (4294967296 * y8) + y5) < Go.IntKind.wrap .u64 (y7 * y3)) then
   bif decide (4294967296 ≤ Go.IntKind.wrap .u64 (y8 + y2)) then
   some (.inl (y0, y1, y2, y3, y4, y5, y6, Go.IntKind.wrap .u64 (y7 - 1), Go.IntKind.wrap .u64 (y8 + y2), decide (4294967296 ≤ Go.IntKind.wrap .u64 (y8 + y2))))
 else
   (S.div64_l0 fu hi lo b n) (y0) (y1) (y2) (y3) (y4) (y5) (y6) (Go.IntKind.wrap .u64 (y7 - 1)) (Go.IntKind.wrap .u64 (y8 + y2))
 else
   some (.inr (y0, y1, y2, y3, y4, y5, y6, y7, y8, decide (Go.IntKind.wrap .u64 (Go.IntKind.wrap .u64 (4294967296 * y8) + y5) < Go.IntKind.wrap .u64 (y7 * y3))))
theorem S.div64_l0_v {R : Type} (fu : Nat) (hi lo b : Int) (K : Ex → St → Option R) : ∀ (n : Nat) (y0 : Int) (y1 : Int) (y2 : Int) (y3 : Int) (y4 : Int) (y5 : Int) (y6 : Int) (y7 : Int) (y8 : Int), loopRun (C_div64 fu hi lo b) G120 S.div64_b0 n (S.div64_s0 hi lo b (y0) (y1) (y2) (y3) (y4) (y5) (y6) (y7) (y8)) K = oK (β := (Int × Int × Int × Int × Int × Int × Int × Int × Int × Bool) ⊕ (Int × Int × Int × Int × Int × Int × Int × Int × Int × Bool)) (S.div64_g0 hi lo b K) (S.div64_l0 fu hi lo b n y0 y1 y2 y3 y4 y5 y6 y7 y8)
  | 0, _, _, _, _, _, _, _, _, _ => rfl
  | n + 1, y0, y1, y2, y3, y4, y5, y6, y7, y8 => (S.div64_l0_k fu hi lo b n K y0 y1 y2 y3 y4 y5 y6 y7 y8).trans (bif_lift (f := (oK (S.div64_g0 hi lo b K))) (bif_lift (f := (oK (S.div64_g0 hi lo b K))) rfl (S.div64_l0_v fu hi lo b K n (y0) (y1) (y2) (y3) (y4) (y5) (y6) (Go.IntKind.wrap .u64 (y7 - 1)) (Go.IntKind.wrap .u64 (y8 + y2)))) (bif_lift (f := (oK (S.div64_g0 hi lo b K))) (bif_lift (f := (oK (S.div64_g0 hi lo b K))) rfl (S.div64_l0_v fu hi lo b K n (y0) (y1) (y2) (y3) (y4) (y5) (y6) (Go.IntKind.wrap .u64 (y7 - 1)) (Go.IntKind.wrap .u64 (y8 + y2)))) rfl))
def S.div64_a0_1 (fu : Nat) (hi lo b : Int) (z0 : Int) (z1 : Int) (z2 : Int) (z3 : Int) (z4 : Int) (z5 : Int) (z6 : Int) (z7 : Int) (z8 : Int) (z9 : Bool) : Option (Int × Int) :=
  bif decide (z2 = 0) then
   none
 else
   optK (S.div64_l1 fu hi lo b fu (z0) (z1) (z2) (z3) (z6) (z7) (Go.IntKind.wrap .u64 (Go.IntKind.wrap .u64 (Go.IntKind.wrap .u64 (Go.IntKind.wrap .u64 (z4 * 4294967296) + z5) - Go.IntKind.wrap .u64 (z7 * z0)) - Go.IntKind.wrap .u64 (Go.IntKind.wrap .u64 (Int.tdiv (Go.IntKind.wrap .u64 (Go.IntKind.wrap .u64 (Go.IntKind.wrap .u64 (z4 * 4294967296) + z5) - Go.IntKind.wrap .u64 (z7 * z0))) z2) * z2))) (Go.IntKind.wrap .u64 (Go.IntKind.wrap .u64 (Go.IntKind.wrap .u64 (z4 * 4294967296) + z5) - Go.IntKind.wrap .u64 (z7 * z0))) (Go.IntKind.wrap .u64 (Int.tdiv (Go.IntKind.wrap .u64 (Go.IntKind.wrap .u64 (Go.IntKind.wrap .u64 (z4 * 4294967296) + z5) - Go.IntKind.wrap .u64 (z7 * z0))) z2))) (Sum.elim (fun z : Int × Int × Int × Int × Int × Int × Int × Int × Int × Bool => S.div64_a1_0 fu hi lo b (z.1) (z.2.1) (z.2.2.1) (z.2.2.2.1) (z.2.2.2.2.1) (z.2.2.2.2.2.1) (z.2.2.2.2.2.2.1) (z.2.2.2.2.2.2.2.1) (z.2.2.2.2.2.2.2.2.1) (z.2.2.2.2.2.2.2.2.2)) (fun z : Int × Int × Int × Int × Int × Int × Int × Int × Int × Bool => S.div64_a1_1 fu hi lo b (z.1) (z.2.1) (z.2.2.1) (z.2.2.2.1) (z.2.2.2.2.1) (z.2.2.2.2.2.1) (z.2.2.2.2.2.2.1) (z.2.2.2.2.2.2.2.1) (z.2.2.2.2.2.2.2.2.1) (z.2.2.2.2.2.2.2.2.2)))
theorem S.div64_a0_1_v {R : Type} (fu : Nat) (hi lo b : Int) (z0 : Int) (z1 : Int) (z2 : Int) (z3 : Int) (z4 : Int) (z5 : Int) (z6 : Int) (z7 : Int) (z8 : Int) (z9 : Bool) (k : AVal → List Blk → Option R) : contOf (C_div64 fu hi lo b) G120 (bodyOf Tryz.f115) [1, 1, 1, 1, 1, 1, 1, 1, 1, 1, 1, 1, 1, 1, 0, 0] (retK tis F115 Tryz.f115 (List.length ([] : List Blk)) k) (Ex.exit 0) (S.div64_x0_1 hi lo b (z0) (z1) (z2) (z3) (z4) (z5) (z6) (z7) (z8) (z9)) = oK (S.div64_gk hi lo b k) (S.div64_a0_1 fu hi lo b z0 z1 z2 z3 z4 z5 z6 z7 z8 z9) :=
  Eq.trans (b := (bif decide (z2 = 0) then
   none
 else
   loopRun (C_div64 fu hi lo b) G120 S.div64_b1 fu (S.div64_s1 hi lo b (z0) (z1) (z2) (z3) (z6) (z7) (Go.IntKind.wrap .u64 (Go.IntKind.wrap .u64 (Go.IntKind.wrap .u64 (Go.IntKind.wrap .u64 (z4 * 4294967296) + z5) - Go.IntKind.wrap .u64 (z7 * z0)) - Go.IntKind.wrap .u64 (Go.IntKind.wrap .u64 (Int.tdiv (Go.IntKind.wrap .u64 (Go.IntKind.wrap .u64 (Go.IntKind.wrap .u64 (z4 * 4294967296) + z5) - Go.IntKind.wrap .u64 (z7 * z0))) z2) * z2))) (Go.IntKind.wrap .u64 (Go.IntKind.wrap .u64 (Go.IntKind.wrap .u64 (z4 * 4294967296) + z5) - Go.IntKind.wrap .u64 (z7 * z0))) (Go.IntKind.wrap .u64 (Int.tdiv (Go.IntKind.wrap .u64 (Go.IntKind.wrap .u64 (Go.IntKind.wrap .u64 (z4 * 4294967296) + z5) - Go.IntKind.wrap .u64 (z7 * z0))) z2))) (contOf (C_div64 fu hi lo b) G120 (bodyOf Tryz.f115) [1, 1, 1, 1, 1, 1, 1, 1, 1, 1, 1, 1, 1, 1, 1, 1, 1, 1, 0, 0] (retK tis F115 Tryz.f115 (List.length ([] : List Blk)) k)))) (by kernel_rfl) (bif_lift (f := (oK (S.div64_gk hi lo b k))) rfl (arr_lift (S.div64_l1_v fu hi lo b (contOf (C_div64 fu hi lo b) G120 (bodyOf Tryz.f115) [1, 1, 1, 1, 1, 1, 1, 1, 1, 1, 1, 1, 1, 1, 1, 1, 1, 1, 0, 0] (retK tis F115 Tryz.f115 (List.length ([] : List Blk)) k)) fu (z0) (z1) (z2) (z3) (z6) (z7) (Go.IntKind.wrap .u64 (Go.IntKind.wrap .u64 (Go.IntKind.wrap .u64 (Go.IntKind.wrap .u64 (z4 * 4294967296) + z5) - Go.IntKind.wrap .u64 (z7 * z0)) - Go.IntKind.wrap .u64 (Go.IntKind.wrap .u64 (Int.tdiv (Go.IntKind.wrap .u64 (Go.IntKind.wrap .u64 (Go.IntKind.wrap .u64 (z4 * 4294967296) + z5) - Go.IntKind.wrap .u64 (z7 * z0))) z2) * z2))) (Go.IntKind.wrap .u64 (Go.IntKind.wrap .u64 (Go.IntKind.wrap .u64 (z4 * 4294967296) + z5) - Go.IntKind.wrap .u64 (z7 * z0))) (Go.IntKind.wrap .u64 (Int.tdiv (Go.IntKind.wrap .u64 (Go.IntKind.wrap .u64 (Go.IntKind.wrap .u64 (z4 * 4294967296) + z5) - Go.IntKind.wrap .u64 (z7 * z0))) z2))) ((sum_lift (fun z => S.div64_a1_0_v fu hi lo b (z.1) (z.2.1) (z.2.2.1) (z.2.2.2.1) (z.2.2.2.2.1) (z.2.2.2.2.2.1) (z.2.2.2.2.2.2.1) (z.2.2.2.2.2.2.2.1) (z.2.2.2.2.2.2.2.2.1) (z.2.2.2.2.2.2.2.2.2) k) (fun z => S.div64_a1_1_v fu hi lo b (z.1) (z.2.1) (z.2.2.1) (z.2.2.2.1) (z.2.2.2.2.1) (z.2.2.2.2.2.1) (z.2.2.2.2.2.2.1) (z.2.2.2.2.2.2.2.1) (z.2.2.2.2.2.2.2.2.1) (z.2.2.2.2.2.2.2.2.2) k)))))
def S.div64_a0_0 (fu : Nat) (hi lo b : Int) (z0 : Int) (z1 : Int) (z2 : Int) (z3 : Int) (z4 : Int) (z5 : Int) (z6 : Int) (z7 : Int) (z8 : Int) (z9 : Bool) : Option (Int × Int) :=
  bif decide (z2 = 0) then
   none
 else
   optK (S.div64_l1 fu hi lo b fu (z0) (z1) (z2) (z3) (z6) (z7) (Go.IntKind.wrap .u64 (Go.IntKind.wrap .u64 (Go.IntKind.wrap .u64 (Go.IntKind.wrap .u64 (z4 * 4294967296) + z5) - Go.IntKind.wrap .u64 (z7 * z0)) - Go.IntKind.wrap .u64 (Go.IntKind.wrap .u64 (Int.tdiv (Go.IntKind.wrap .u64 (Go.IntKind.wrap .u64 (Go.IntKind.wrap .u64 (z4 * 4294967296) + z5) - Go.IntKind.wrap .u64 (z7 * z0))) z2) * z2))) (Go.IntKind.wrap .u64 (Go.IntKind.wrap .u64 (Go.IntKind.wrap .u64 (z4 * 4294967296) + z5) - Go.IntKind.wrap .u64 (z7 * z0))) (Go.IntKind.wrap .u64 (Int.tdiv (Go.IntKind.wrap .u64 (Go.IntKind.wrap .u64 (Go.IntKind.wrap .u64 (z4 * 4294967296) + z5) - Go.IntKind.wrap .u64 (z7 * z0))) z2))) (Sum.elim (fun z : Int × Int × Int × Int × Int × Int × Int × Int × Int × Bool => S.div64_a1_0 fu hi lo b (z.1) (z.2.1) (z.2.2.1) (z.2.2.2.1) (z.2.2.2.2.1) (z.2.2.2.2.2.1) (z.2.2.2.2.2.2.1) (z.2.2.2.2.2.2.2.1) (z.2.2.2.2.2.2.2.2.1) (z.2.2.2.2.2.2.2.2.2)) (fun z : Int × Int × Int × Int × Int × Int × Int × Int × Int × Bool => S.div64_a1_1 fu hi lo b (z.1) (z.2.1) (z.2.2.1) (z.2.2.2.1) (z.2.2.2.2.1) (z.2.2.2.2.2.1) (z.2.2.2.2.2.2.1) (z.2.2.2.2.2.2.2.1) (z.2.2.2.2.2.2.2.2.1) (z.2.2.2.2.2.2.2.2.2)))
theorem S.div64_a0_0_v {R : Type} (fu : Nat) (hi lo b : Int) (z0 : Int) (z1 : Int) (z2 : Int) (z3 : Int) (z4 : Int) (z5 : Int) (z6 : Int) (z7 : Int) (z8 : Int) (z9 : Bool) (k : AVal → List Blk → Option R) : contOf (C_div64 fu hi lo b) G120 (bodyOf Tryz.f115) [1, 1, 1, 1, 1, 1, 1, 1, 1, 1, 1, 1, 1, 1, 0, 0] (retK tis F115 Tryz.f115 (List.length ([] : List Blk)) k) (Ex.exit 0) (S.div64_x0_0 hi lo b (z0) (z1) (z2) (z3) (z4) (z5) (z6) (z7) (z8) (z9)) = oK (S.div64_gk hi lo b k) (S.div64_a0_0 fu hi lo b z0 z1 z2 z3 z4 z5 z6 z7 z8 z9) :=
  Eq.trans (b := (bif decide (z2 = 0) then
   none
 else
   loopRun (C_div64 fu hi lo b) G120 S.div64_b1 fu (S.div64_s1 hi lo b (z0) (z1) (z2) (z3) (z6) (z7) (Go.IntKind.wrap .u64 (Go.IntKind.wrap .u64 (Go.IntKind.wrap .u64 (Go.IntKind.wrap .u64 (z4 * 4294967296) + z5) - Go.IntKind.wrap .u64 (z7 * z0)) - Go.IntKind.wrap .u64 (Go.IntKind.wrap .u64 (Int.tdiv (Go.IntKind.wrap .u64 (Go.IntKind.wrap .u64 (Go.IntKind.wrap .u64 (z4 * 4294967296) + z5) - Go.IntKind.wrap .u64 (z7 * z0))) z2) * z2))) (Go.IntKind.wrap .u64 (Go.IntKind.wrap .u64 (Go.IntKind.wrap .u64 (z4 * 4294967296) + z5) - Go.IntKind.wrap .u64 (z7 * z0))) (Go.IntKind.wrap .u64 (Int.tdiv (Go.IntKind.wrap .u64 (Go.IntKind.wrap .u64 (Go.IntKind.wrap .u64 (z4 * 4294967296) + z5) - Go.IntKind.wrap .u64 (z7 * z0))) z2))) (contOf (C_div64 fu hi lo b) G120 (bodyOf Tryz.f115) [1, 1, 1, 1, 1, 1, 1, 1, 1, 1, 1, 1, 1, 1, 1, 1, 1, 1, 0, 0] (retK tis F115 Tryz.f115 (List.length ([] : List Blk)) k)))) (by kernel_rfl) (bif_lift (f := (oK (S.div64_gk hi lo b k))) rfl (arr_lift (S.div64_l1_v fu hi lo b (contOf (C_div64 fu hi lo b) G120 (bodyOf Tryz.f115) [1, 1, 1, 1, 1, 1, 1, 1, 1, 1, 1, 1, 1, 1, 1, 1, 1, 1, 0, 0] (retK tis F115 Tryz.f115 (List.length ([] : List Blk)) k)) fu (z0) (z1) (z2) (z3) (z6) (z7) (Go.IntKind.wrap .u64 (Go.IntKind.wrap .u64 (Go.IntKind.wrap .u64 (Go.IntKind.wrap .u64 (z4 * 4294967296) + z5) - Go.IntKind.wrap .u64 (z7 * z0)) - Go.IntKind.wrap .u64 (Go.IntKind.wrap .u64 (Int.tdiv (Go.IntKind.wrap .u64 (Go.IntKind.wrap .u64 (Go.IntKind.wrap .u64 (z4 * 4294967296) + z5) - Go.IntKind.wrap .u64 (z7 * z0))) z2) * z2))) (Go.IntKind.wrap .u64 (Go.IntKind.wrap .u64 (Go.IntKind.wrap .u64 (z4 * 4294967296) + z5) - Go.IntKind.wrap .u64 (z7 * z0))) (Go.IntKind.wrap .u64 (Int.tdiv (Go.IntKind.wrap .u64 (Go.IntKind.wrap .u64 (Go.IntKind.wrap .u64 (z4 * 4294967296) + z5) - Go.IntKind.wrap .u64 (z7 * z0))) z2))) ((sum_lift (fun z => S.div64_a1_0_v fu hi lo b (z.1) (z.2.1) (z.2.2.1) (z.2.2.2.1) (z.2.2.2.2.1) (z.2.2.2.2.2.1) (z.2.2.2.2.2.2.1) (z.2.2.2.2.2.2.2.1) (z.2.2.2.2.2.2.2.2.1) (z.2.2.2.2.2.2.2.2.2) k) (fun z => S.div64_a1_1_v fu hi lo b (z.1) (z.2.1) (z.2.2.1) (z.2.2.2.1) (z.2.2.2.2.1) (z.2.2.2.2.2.1) (z.2.2.2.2.2.2.1) (z.2.2.2.2.2.2.2.1) (z.2.2.2.2.2.2.2.2.1) (z.2.2.2.2.2.2.2.2.2) k)))))
noncomputable def S.div64_L {R : Type} (fu : Nat) (hi lo b : Int) (k : AVal → List Blk → Option R) : Option R := fnEval tis F115 fu G120 Tryz.f115 [.int .u64 hi, .int .u64 lo, .int .u64 b] [] k
def S.div64 (fu : Nat) (hi lo b : Int) : Option (Int × Int) :=
  bif decide (b = 0) then
   none
 else
   bif decide (b ≤ hi) then
   none
 else
   bif decide (hi = 0) then
   bif decide (b = 0) then
   none
 else
   bif decide (b = 0) then
   none
 else
   some (Go.IntKind.wrap .u64 (Int.tdiv lo b), Int.tmod lo b)
 else
   (optK (S.lz64 b) fun o5 =>
   bif decide (Go.IntKind.wrap .u64 o5 < 0) then
   none
 else
   bif decide (Go.IntKind.wrap .u64 o5 < 0) then
   none
 else
   bif decide (Go.IntKind.wrap .u64 (64 - Go.IntKind.wrap .u64 o5) < 0) then
   none
 else
   bif decide (Go.IntKind.wrap .u64 o5 < 0) then
   none
 else
   bif decide (Int.fdiv (Go.IntKind.wrap .u64 (b * 2 ^ Min.min (Int.toNat (Go.IntKind.wrap .u64 o5)) 64)) 4294967296 = 0) then
   none
 else
   optK (S.div64_l0 fu hi lo b fu (Go.IntKind.wrap .u64 (b * 2 ^ Min.min (Int.toNat (Go.IntKind.wrap .u64 o5)) 64)) (Go.IntKind.wrap .u64 o5) (Int.fdiv (Go.IntKind.wrap .u64 (b * 2 ^ Min.min (Int.toNat (Go.IntKind.wrap .u64 o5)) 64)) 4294967296) (bitsA Go.BinOp.and .u64 (Go.IntKind.wrap .u64 (b * 2 ^ Min.min (Int.toNat (Go.IntKind.wrap .u64 o5)) 64)) 4294967295) (bitsA Go.BinOp.or .u64 (Go.IntKind.wrap .u64 (hi * 2 ^ Min.min (Int.toNat (Go.IntKind.wrap .u64 o5)) 64)) (Int.fdiv lo (2 ^ Min.min (Int.toNat (Go.IntKind.wrap .u64 (64 - Go.IntKind.wrap .u64 o5))) 64))) (Int.fdiv (Go.IntKind.wrap .u64 (lo * 2 ^ Min.min (Int.toNat (Go.IntKind.wrap .u64 o5)) 64)) 4294967296) (bitsA Go.BinOp.and .u64 (Go.IntKind.wrap .u64 (lo * 2 ^ Min.min (Int.toNat (Go.IntKind.wrap .u64 o5)) 64)) 4294967295) (Go.IntKind.wrap .u64 (Int.tdiv (bitsA Go.BinOp.or .u64 (Go.IntKind.wrap .u64 (hi * 2 ^ Min.min (Int.toNat (Go.IntKind.wrap .u64 o5)) 64)) (Int.fdiv lo (2 ^ Min.min (Int.toNat (Go.IntKind.wrap .u64 (64 - Go.IntKind.wrap .u64 o5))) 64))) (Int.fdiv (Go.IntKind.wrap .u64 (b * 2 ^ Min.min (Int.toNat (Go.IntKind.wrap .u64 o5)) 64)) 4294967296))) (Go.IntKind.wrap .u64 (bitsA Go.BinOp.or .u64 (Go.IntKind.wrap .u64 (hi * 2 ^ Min.min (Int.toNat (Go.IntKind.wrap .u64 o5)) 64)) (Int.fdiv lo (2 ^ Min.min (Int.toNat (Go.IntKind.wrap .u64 (64 - Go.IntKind.wrap .u64 o5))) 64)) - Go.IntKind.wrap .u64 (Go.IntKind.wrap .u64 (Int.tdiv (bitsA Go.BinOp.or .u64 (Go.IntKind.wrap .u64 (hi * 2 ^ Min.min (Int.toNat (Go.IntKind.wrap .u64 o5)) 64)) (Int.fdiv lo (2 ^ Min.min (Int.toNat (Go.IntKind.wrap .u64 (64 - Go.IntKind.wrap .u64 o5))) 64))) (Int.fdiv (Go.IntKind.wrap .u64 (b * 2 ^ Min.min (Int.toNat (Go.IntKind.wrap .u64 o5)) 64)) 4294967296)) * Int.fdiv (Go.IntKind.wrap .u64 (b * 2 ^ Min.min (Int.toNat (Go.IntKind.wrap .u64 o5)) 64)) 4294967296)))) (Sum.elim (fun z : Int × Int × Int × Int × Int × Int × Int × Int × Int × Bool => S.div64_a0_0 fu hi lo b (z.1) (z.2.1) (z.2.2.1) (z.2.2.2.1) (z.2.2.2.2.1) (z.2.2.2.2.2.1) (z.2.2.2.2.2.2.1) (z.2.2.2.2.2.2.2.1) (z.2.2.2.2.2.2.2.2.1) (z.2.2.2.2.2.2.2.2.2)) (fun z : Int × Int × Int × Int × Int × Int × Int × Int × Int × Bool => S.div64_a0_1 fu hi lo b (z.1) (z.2.1) (z.2.2.1) (z.2.2.2.1) (z.2.2.2.2.1) (z.2.2.2.2.2.1) (z.2.2.2.2.2.2.1) (z.2.2.2.2.2.2.2.1) (z.2.2.2.2.2.2.2.2.1) (z.2.2.2.2.2.2.2.2.2))))
theorem S.div64_v {R : Type} (fu : Nat) (hi lo b : Int) (k : AVal → List Blk → Option R) : S.div64_L fu hi lo b k = oK (S.div64_gk hi lo b k) (S.div64 fu hi lo b) :=
  Eq.trans (b := (bif decide (b = 0) then
   none
 else
   bif decide (b ≤ hi) then
   none
 else
   bif decide (hi = 0) then
   bif decide (b = 0) then
   none
 else
   bif decide (b = 0) then
   none
 else
   (S.div64_gk hi lo b k) (Go.IntKind.wrap .u64 (Int.tdiv lo b), Int.tmod lo b)
 else
   (optK (S.lz64 b) fun o5 =>
   bif decide (Go.IntKind.wrap .u64 o5 < 0) then
   none
 else
   bif decide (Go.IntKind.wrap .u64 o5 < 0) then
   none
 else
   bif decide (Go.IntKind.wrap .u64 (64 - Go.IntKind.wrap .u64 o5) < 0) then
   none
 else
   bif decide (Go.IntKind.wrap .u64 o5 < 0) then
   none
 else
   bif decide (Int.fdiv (Go.IntKind.wrap .u64 (b * 2 ^ Min.min (Int.toNat (Go.IntKind.wrap .u64 o5)) 64)) 4294967296 = 0) then
   none
 else
   loopRun (C_div64 fu hi lo b) G120 S.div64_b0 fu (S.div64_s0 hi lo b (Go.IntKind.wrap .u64 (b * 2 ^ Min.min (Int.toNat (Go.IntKind.wrap .u64 o5)) 64)) (Go.IntKind.wrap .u64 o5) (Int.fdiv (Go.IntKind.wrap .u64 (b * 2 ^ Min.min (Int.toNat (Go.IntKind.wrap .u64 o5)) 64)) 4294967296) (bitsA Go.BinOp.and .u64 (Go.IntKind.wrap .u64 (b * 2 ^ Min.min (Int.toNat (Go.IntKind.wrap .u64 o5)) 64)) 4294967295) (bitsA Go.BinOp.or .u64 (Go.IntKind.wrap .u64 (hi * 2 ^ Min.min (Int.toNat (Go.IntKind.wrap .u64 o5)) 64)) (Int.fdiv lo (2 ^ Min.min (Int.toNat (Go.IntKind.wrap .u64 (64 - Go.IntKind.wrap .u64 o5))) 64))) (Int.fdiv (Go.IntKind.wrap .u64 (lo * 2 ^ Min.min (Int.toNat (Go.IntKind.wrap .u64 o5)) 64)) 4294967296) (bitsA Go.BinOp.and .u64 (Go.IntKind.wrap .u64 (lo * 2 ^ Min.min (Int.toNat (Go.IntKind.wrap .u64 o5)) 64)) 4294967295) (Go.IntKind.wrap .u64 (Int.tdiv (bitsA Go.BinOp.or .u64 (Go.IntKind.wrap .u64 (hi * 2 ^ Min.min (Int.toNat (Go.IntKind.wrap .u64 o5)) 64)) (Int.fdiv lo (2 ^ Min.min (Int.toNat (Go.IntKind.wrap .u64 (64 - Go.IntKind.wrap .u64 o5))) 64))) (Int.fdiv (Go.IntKind.wrap .u64 (b * 2 ^ Min.min (Int.toNat (Go.IntKind.wrap .u64 o5)) 64)) 4294967296))) (Go.IntKind.wrap .u64 (bitsA Go.BinOp.or .u64 (Go.IntKind.wrap .u64 (hi * 2 ^ Min.min (Int.toNat (Go.IntKind.wrap .u64 o5)) 64)) (Int.fdiv lo (2 ^ Min.min (Int.toNat (Go.IntKind.wrap .u64 (64 - Go.IntKind.wrap .u64 o5))) 64)) - Go.IntKind.wrap .u64 (Go.IntKind.wrap .u64 (Int.tdiv (bitsA Go.BinOp.or .u64 (Go.IntKind.wrap .u64 (hi * 2 ^ Min.min (Int.toNat (Go.IntKind.wrap .u64 o5)) 64)) (Int.fdiv lo (2 ^ Min.min (Int.toNat (Go.IntKind.wrap .u64 (64 - Go.IntKind.wrap .u64 o5))) 64))) (Int.fdiv (Go.IntKind.wrap .u64 (b * 2 ^ Min.min (Int.toNat (Go.IntKind.wrap .u64 o5)) 64)) 4294967296)) * Int.fdiv (Go.IntKind.wrap .u64 (b * 2 ^ Min.min (Int.toNat (Go.IntKind.wrap .u64 o5)) 64)) 4294967296)))) (contOf (C_div64 fu hi lo b) G120 (bodyOf Tryz.f115) [1, 1, 1, 1, 1, 1, 1, 1, 1, 1, 1, 1, 1, 1, 0, 0] (retK tis F115 Tryz.f115 (List.length ([] : List Blk)) k))))) (by kernel_rfl) (bif_lift (f := (oK (S.div64_gk hi lo b k))) rfl (bif_lift (f := (oK (S.div64_gk hi lo b k))) rfl (bif_lift (f := (oK (S.div64_gk hi lo b k))) (bif_lift (f := (oK (S.div64_gk hi lo b k))) rfl (bif_lift (f := (oK (S.div64_gk hi lo b k))) rfl rfl)) (opt_lift fun o5 => (bif_lift (f := (oK (S.div64_gk hi lo b k))) rfl (bif_lift (f := (oK (S.div64_gk hi lo b k))) rfl (bif_lift (f := (oK (S.div64_gk hi lo b k))) rfl (bif_lift (f := (oK (S.div64_gk hi lo b k))) rfl (bif_lift (f := (oK (S.div64_gk hi lo b k))) rfl (arr_lift (S.div64_l0_v fu hi lo b (contOf (C_div64 fu hi lo b) G120 (bodyOf Tryz.f115) [1, 1, 1, 1, 1, 1, 1, 1, 1, 1, 1, 1, 1, 1, 0, 0] (retK tis F115 Tryz.f115 (List.length ([] : List Blk)) k)) fu (Go.IntKind.wrap .u64 (b * 2 ^ Min.min (Int.toNat (Go.IntKind.wrap .u64 o5)) 64)) (Go.IntKind.wrap .u64 o5) (Int.fdiv (Go.IntKind.wrap .u64 (b * 2 ^ Min.min (Int.toNat (Go.IntKind.wrap .u64 o5)) 64)) 4294967296) (bitsA Go.BinOp.and .u64 (Go.IntKind.wrap .u64 (b * 2 ^ Min.min (Int.toNat (Go.IntKind.wrap .u64 o5)) 64)) 4294967295) (bitsA Go.BinOp.or .u64 (Go.IntKind.wrap .u64 (hi * 2 ^ Min.min (Int.toNat (Go.IntKind.wrap .u64 o5)) 64)) (Int.fdiv lo (2 ^ Min.min (Int.toNat (Go.IntKind.wrap .u64 (64 - Go.IntKind.wrap .u64 o5))) 64))) (Int.fdiv (Go.IntKind.wrap .u64 (lo * 2 ^ Min.min (Int.toNat (Go.IntKind.wrap .u64 o5)) 64)) 4294967296) (bitsA Go.BinOp.and .u64 (Go.IntKind.wrap .u64 (lo * 2 ^ Min.min (Int.toNat (Go.IntKind.wrap .u64 o5)) 64)) 4294967295) (Go.IntKind.wrap .u64 (Int.tdiv (bitsA Go.BinOp.or .u64 (Go.IntKind.wrap .u64 (hi * 2 ^ Min.min (Int.toNat (Go.IntKind.wrap .u64 o5)) 64)) (Int.fdiv lo (2 ^ Min.min (Int.toNat (Go.IntKind.wrap .u64 (64 - Go.IntKind.wrap .u64 o5))) 64))) (Int.fdiv (Go.IntKind.wrap .u64 (b * 2 ^ Min.min (Int.toNat (Go.IntKind.wrap .u64 o5)) 64)) 4294967296))) (Go.IntKind.wrap .u64 (bitsA Go.BinOp.or .u64 (Go.IntKind.wrap .u64 (hi * 2 ^ Min.min (Int.toNat (Go.IntKind.wrap .u64 o5)) 64)) (Int.fdiv lo (2 ^ Min.min (Int.toNat (Go.IntKind.wrap .u64 (64 - Go.IntKind.wrap .u64 o5))) 64)) - Go.IntKind.wrap .u64 (Go.IntKind.wrap .u64 (Int.tdiv (bitsA Go.BinOp.or .u64 (Go.IntKind.wrap .u64 (hi * 2 ^ Min.min (Int.toNat (Go.IntKind.wrap .u64 o5)) 64)) (Int.fdiv lo (2 ^ Min.min (Int.toNat (Go.IntKind.wrap .u64 (64 - Go.IntKind.wrap .u64 o5))) 64))) (Int.fdiv (Go.IntKind.wrap .u64 (b * 2 ^ Min.min (Int.toNat (Go.IntKind.wrap .u64 o5)) 64)) 4294967296)) * Int.fdiv (Go.IntKind.wrap .u64 (b * 2 ^ Min.min (Int.toNat (Go.IntKind.wrap .u64 o5)) 64)) 4294967296)))) ((sum_lift (fun z => S.div64_a0_0_v fu hi lo b (z.1) (z.2.1) (z.2.2.1) (z.2.2.2.1) (z.2.2.2.2.1) (z.2.2.2.2.2.1) (z.2.2.2.2.2.2.1) (z.2.2.2.2.2.2.2.1) (z.2.2.2.2.2.2.2.2.1) (z.2.2.2.2.2.2.2.2.2) k) (fun z => S.div64_a0_1_v fu hi lo b (z.1) (z.2.1) (z.2.2.1) (z.2.2.2.1) (z.2.2.2.2.1) (z.2.2.2.2.2.1) (z.2.2.2.2.2.2.1) (z.2.2.2.2.2.2.2.1) (z.2.2.2.2.2.2.2.2.1) (z.2.2.2.2.2.2.2.2.2) k)))))))))))))
def H115 : Hnd := fun R args σ k => match args, σ with
  | [.int .u64 hi, .int .u64 lo, .int .u64 b], [] => oK (fun v : Int × Int => k (.tuple [(.int .u64 v.1), (.int .u64 v.2)]) []) (S.div64 100000 hi lo b)
  | _, _ => none
theorem H115_ok : HndOk Tryz.prog 115 H115 := hnd_ok tis tisOk mixOk G120_ok F115 Tryz.func115 rfl (by
  intro R args σ k r h
  unfold H115 at h
  split at h
  · rename_i hi lo b; exact ⟨100000, (S.div64_v 100000 hi lo b _).trans h⟩
  · cases h)
def G115 : Env := Env.add 115 H115 G120
theorem G115_ok : EnvOk Tryz.prog G115 := envAdd_ok H115_ok G120_ok
end Go.Proofs.YtdgipcjigbagfaaGreat.AB
