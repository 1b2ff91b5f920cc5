/- What the program tells of a few rings. -/
import Derived.Test.YtmgnfjiogfcieaaSrref
namespace Go.Proofs.Ytmgnfjiogfcieaa.AB
set_option linter.unusedVariables false

/-! spinnakerlaw5.told -/
def F14 : FCfg := ⟨keepAt [(0, []), (1, [1]), (2, [1, 25]), (3, [0]), (4, [1, 2, 3, 4]), (5, [1, 2, 3, 4, 5, 6]), (6, [1, 2, 3, 4, 5, 6, 7, 8]), (7, [1, 2, 3, 4, 5, 6, 7, 8, 9]), (8, [1, 2, 3, 4, 5, 6, 7, 8, 9, 10, 11]), (9, [1, 2, 3, 4, 5, 6, 7, 8, 9, 10, 11, 12, 13]), (10, [1, 2, 3, 4, 5, 6, 7, 8, 9, 10, 11, 12, 13, 14, 15]), (11, [1, 2, 3, 4, 5, 6, 7, 8, 9, 10, 11, 12, 13, 14, 15, 16]), (12, [1, 2, 3, 4, 5, 6, 7, 8, 9, 10, 11, 12, 13, 14, 15, 16, 17, 18]), (13, [1, 2, 3, 4, 5, 6, 7, 8, 9, 10, 11, 12, 13, 14, 15, 16, 17, 18, 65]), (14, [0]), (15, [1, 2, 3, 4, 5, 6, 7, 8, 9, 10, 11, 12, 13, 14, 15, 16, 17, 18]), (16, [1, 2, 3, 4, 5, 6, 7, 8, 9, 10, 11, 12, 13, 14, 15, 16, 17, 18]), (17, [1, 2, 3, 4, 5, 6, 7, 8, 9, 10, 11, 12, 13, 14, 15, 16, 17, 18, 19, 20]), (18, [1, 2, 3, 4, 5, 6, 7, 8, 9, 10, 11, 12, 13, 14, 15, 16, 17, 18, 19, 20]), (19, [1, 2, 3, 4, 5, 6, 7, 8, 9, 10, 11, 12, 13, 14, 15, 16, 17, 18, 19, 20]), (20, [1, 2, 3, 4, 5, 6, 7, 8, 9, 10, 11, 12, 13, 14, 15, 16, 17, 18, 19, 20]), (21, [1, 2, 3, 4, 5, 6, 7, 8, 9, 10, 11, 12, 13, 14, 15, 16, 17, 18, 19, 20]), (22, [1, 2, 3, 4, 5, 6, 7, 8, 9, 10, 11, 12, 13, 14, 15, 16, 17, 19, 20, 21, 22]), (23, [0])], loopAt [], []⟩
theorem S.told5_k {R : Type}  (k : AVal → List Blk → Option R) : fnEval tis F14 0 G21 Try.f14 [] [] k =
  (k (.bool true) ([])) := by kernel_rfl
def S.told5  : Bool :=
  (true)
theorem S.told5_v {R : Type}  (k : AVal → List Blk → Option R) : fnEval tis F14 0 G21 Try.f14 [] [] k = k (.bool (S.told5)) [] :=
  (S.told5_k k).trans rfl
def H14 : Hnd := fun R args σ k => match args, σ with
  | [], [] => k (.bool (S.told5)) []
  | _, _ => none
theorem H14_ok : HndOk Try.prog 14 H14 := hnd_ok tis tisOk mixOk G21_ok F14 Try.func14 rfl (by
  intro R args σ k r h
  unfold H14 at h
  split at h
  · exact ⟨0, (S.told5_v _).trans h⟩
  · cases h)
def G14 : Env := Env.add 14 H14 G21
theorem G14_ok : EnvOk Try.prog G14 := envAdd_ok H14_ok G21_ok
end Go.Proofs.Ytmgnfjiogfcieaa.AB
