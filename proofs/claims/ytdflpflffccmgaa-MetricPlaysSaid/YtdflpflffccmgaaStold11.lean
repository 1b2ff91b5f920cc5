/- What the program tells of a few. -/
import Derived.Test.YtdflpflffccmgaaSmetric
namespace Go.Proofs.Ytdflpflffccmgaa.AB
set_option linter.unusedVariables false

/-! spinnakerlaw11.told -/
def F13 : FCfg := ⟨keepAt [(0, []), (1, [1]), (2, [1, 2]), (3, [1, 2, 17]), (4, [0]), (5, [1, 2, 3]), (6, [1, 2, 3, 4]), (7, [1, 2, 3, 4, 5, 6]), (8, [2, 3, 4, 5, 6, 7]), (9, [2, 3, 4, 5, 6, 7]), (10, [2, 3, 4, 5, 6, 8]), (11, [2, 3, 4, 5, 6, 8, 9, 10]), (12, [3, 4, 5, 6, 8, 9, 10, 11]), (13, [3, 4, 5, 6, 8, 9, 10, 11, 12]), (14, [0])], loopAt [], []⟩
theorem S.told11_k {R : Type}  (k : AVal → List Blk → Option R) : fnEval tis F13 0 G16 Try.f13 [] [] k =
  (k (.bool true) ([])) := by kernel_rfl
noncomputable def S.told11  : Bool :=
  (true)
theorem S.told11_v {R : Type}  (k : AVal → List Blk → Option R) : fnEval tis F13 0 G16 Try.f13 [] [] k = k (.bool (S.told11)) [] :=
  (S.told11_k k).trans rfl
noncomputable def H13 : Hnd := fun R args σ k => match args, σ with
  | [], [] => k (.bool (S.told11)) []
  | _, _ => none
theorem H13_ok : HndOk Try.prog 13 H13 := hnd_ok tis tisOk mixOk G16_ok F13 Try.func13 rfl (by
  intro R args σ k r h
  unfold H13 at h
  split at h
  · exact ⟨0, (S.told11_v _).trans h⟩
  · cases h)
noncomputable def G13 : Env := Env.add 13 H13 G16
theorem G13_ok : EnvOk Try.prog G13 := envAdd_ok H13_ok G16_ok
end Go.Proofs.Ytdflpflffccmgaa.AB
