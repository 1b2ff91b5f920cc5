/- WantSudden, as a plain function. -/
import Derived.Test.YtdflpflffccmgaaSwantz
namespace Go.Proofs.Ytdflpflffccmgaa.AB
set_option linter.unusedVariables false

/-! spinnakerlaw12.WantSudden -/
def F10 : FCfg := ⟨keepAt [(0, [0]), (1, [0, 3]), (2, [3, 4]), (3, [3, 4, 5]), (4, [2])], loopAt [], []⟩
theorem S.WantSudden_k {R : Type} (a : Int) (k : AVal → List Blk → Option R) : fnEval tis F10 0 G27s Try.f10 [.int .i64 a] [] k =
  (bif S.q_wover (Cf.mk 10000 700 60 6 1 2000 10000 2000 0 0 1 30 0 20000 10 100 60 3 0 0) (Go.IntKind.wrap .i64 (2 * if 1 > Go.IntKind.wrap .i64 (Int.tmod (Go.IntKind.wrap .u64 a) 1001) then 1 else Go.IntKind.wrap .i64 (Int.tmod (Go.IntKind.wrap .u64 a) 1001))) (Go.IntKind.wrap .i64 (Int.tmod (Go.IntKind.wrap .u64 a) 1001)) then
    bif !S.q_wover (Cf.mk 10000 700 60 6 1 2000 10000 2000 0 0 1 30 0 20000 10 100 60 3 0 0) (Go.IntKind.wrap .i64 (Go.IntKind.wrap .i64 (2 * if 1 > Go.IntKind.wrap .i64 (Int.tmod (Go.IntKind.wrap .u64 a) 1001) then 1 else Go.IntKind.wrap .i64 (Int.tmod (Go.IntKind.wrap .u64 a) 1001)) - 1)) (Go.IntKind.wrap .i64 (Int.tmod (Go.IntKind.wrap .u64 a) 1001)) then
      k (.bool (S.q_wover (Cf.mk 10000 700 60 6 1 2000 10000 2000 0 0 1 30 0 20000 10 100 60 3 0 0) (Go.IntKind.wrap .i64 (Go.IntKind.wrap .i64 (2 * if 1 > Go.IntKind.wrap .i64 (Int.tmod (Go.IntKind.wrap .u64 a) 1001) then 1 else Go.IntKind.wrap .i64 (Int.tmod (Go.IntKind.wrap .u64 a) 1001)) + 1)) (Go.IntKind.wrap .i64 (Int.tmod (Go.IntKind.wrap .u64 a) 1001)))) ([])
    else
      k (.bool false) ([])
  else
    k (.bool false) ([])) := by kernel_rfl
noncomputable def S.WantSudden (a : Int) : Bool :=
  bif S.q_wover (Cf.mk 10000 700 60 6 1 2000 10000 2000 0 0 1 30 0 20000 10 100 60 3 0 0) (Go.IntKind.wrap .i64 (2 * if 1 > Go.IntKind.wrap .i64 (Int.tmod (Go.IntKind.wrap .u64 a) 1001) then 1 else Go.IntKind.wrap .i64 (Int.tmod (Go.IntKind.wrap .u64 a) 1001))) (Go.IntKind.wrap .i64 (Int.tmod (Go.IntKind.wrap .u64 a) 1001)) then
    bif !S.q_wover (Cf.mk 10000 700 60 6 1 2000 10000 2000 0 0 1 30 0 20000 10 100 60 3 0 0) (Go.IntKind.wrap .i64 (Go.IntKind.wrap .i64 (2 * if 1 > Go.IntKind.wrap .i64 (Int.tmod (Go.IntKind.wrap .u64 a) 1001) then 1 else Go.IntKind.wrap .i64 (Int.tmod (Go.IntKind.wrap .u64 a) 1001)) - 1)) (Go.IntKind.wrap .i64 (Int.tmod (Go.IntKind.wrap .u64 a) 1001)) then
      (S.q_wover (Cf.mk 10000 700 60 6 1 2000 10000 2000 0 0 1 30 0 20000 10 100 60 3 0 0) (Go.IntKind.wrap .i64 (Go.IntKind.wrap .i64 (2 * if 1 > Go.IntKind.wrap .i64 (Int.tmod (Go.IntKind.wrap .u64 a) 1001) then 1 else Go.IntKind.wrap .i64 (Int.tmod (Go.IntKind.wrap .u64 a) 1001)) + 1)) (Go.IntKind.wrap .i64 (Int.tmod (Go.IntKind.wrap .u64 a) 1001)))
    else
      (false)
  else
    (false)
theorem S.WantSudden_v {R : Type} (a : Int) (k : AVal → List Blk → Option R) : fnEval tis F10 0 G27s Try.f10 [.int .i64 a] [] k = k (.bool (S.WantSudden a)) [] :=
  (S.WantSudden_k a k).trans (bif_lift (f := (fun v : Bool => k (.bool v) [])) (bif_lift (f := (fun v : Bool => k (.bool v) [])) rfl rfl) rfl)
noncomputable def H10 : Hnd := fun R args σ k => match args, σ with
  | [.int .i64 a], [] => k (.bool (S.WantSudden a)) []
  | _, _ => none
theorem H10_ok : HndOk Try.prog 10 H10 := hnd_ok tis tisOk mixOk G27s_ok F10 Try.func10 rfl (by
  intro R args σ k r h
  unfold H10 at h
  split at h
  · rename_i a; exact ⟨0, (S.WantSudden_v a _).trans h⟩
  · cases h)
noncomputable def G10 : Env := Env.add 10 H10 G27s
theorem G10_ok : EnvOk Try.prog G10 := envAdd_ok H10_ok G27s_ok
end Go.Proofs.Ytdflpflffccmgaa.AB
