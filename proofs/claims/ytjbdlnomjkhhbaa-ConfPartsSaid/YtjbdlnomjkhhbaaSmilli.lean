/- The functions of layer 1, as plain functions. -/
import Derived.Test.YtjbdlnomjkhhbaaSdiv
namespace Go.Proofs.Ytjbdlnomjkhhbaa.AB
set_option linter.unusedVariables false

/-! milli.far -/
def F42 : FCfg := ⟨keepAt [(0, [0]), (1, [0, 4]), (2, [2]), (3, [2])], loopAt [], []⟩
theorem S.far_k {R : Type} (a : Int) (k : AVal → List Blk → Option R) : fnEval tis F42 0 G44 Try.f42 [.int .i64 a] [] k =
  (bif decide (a < 0) then
    k (.int .u64 (Go.IntKind.wrap .u64 (0 - Go.IntKind.wrap .u64 a))) ([])
  else
    k (.int .u64 (Go.IntKind.wrap .u64 a)) ([])) := by kernel_rfl
def S.far (a : Int) : Int :=
  bif decide (a < 0) then
    (Go.IntKind.wrap .u64 (0 - Go.IntKind.wrap .u64 a))
  else
    (Go.IntKind.wrap .u64 a)
theorem S.far_v {R : Type} (a : Int) (k : AVal → List Blk → Option R) : fnEval tis F42 0 G44 Try.f42 [.int .i64 a] [] k = k (.int .u64 (S.far a)) [] :=
  (S.far_k a k).trans (bif_lift (f := (fun v : Int => k (.int .u64 v) [])) rfl rfl)
def H42 : Hnd := fun R args σ k => match args, σ with
  | [.int .i64 a], [] => k (.int .u64 (S.far a)) []
  | _, _ => none
theorem H42_ok : HndOk Try.prog 42 H42 := hnd_ok tis tisOk mixOk G44_ok F42 Try.func42 rfl (by
  intro R args σ k r h
  unfold H42 at h
  split at h
  · rename_i a; exact ⟨0, (S.far_v a _).trans h⟩
  · cases h)
def G42 : Env := Env.add 42 H42 G44
theorem G42_ok : EnvOk Try.prog G42 := envAdd_ok H42_ok G44_ok

/-! milli.Mul -/
def F15 : FCfg := ⟨keepAt [(0, [0, 1]), (1, [0, 1, 6]), (2, [6, 7, 8]), (3, [6, 7, 8, 25]), (4, [4, 5]), (5, [6, 9, 10]), (6, [9, 10, 39]), (7, [9, 41]), (8, [4, 5]), (9, [4, 5]), (10, [9, 10, 49]), (11, [9, 10]), (12, [9, 61]), (13, [4, 5]), (14, [4, 5])], loopAt [], []⟩
theorem S.mmul_k {R : Type} (a b : Int) (k : AVal → List Blk → Option R) : fnEval tis F15 0 G42 Try.f15 [.int .i64 a, .int .i64 b] [] k =
  (bif decide (1000 ≤ Prod.fst (S.mul64 (S.far a) (S.far b))) then
    k (.tuple [.int .i64 (Prod.fst (S.mend !!decide (a < 0) == decide (b < 0))), .int .i64 (Prod.snd (S.mend !!decide (a < 0) == decide (b < 0)))]) ([])
  else
    (optK (S.div64 100000 (Prod.fst (S.mul64 (S.far a) (S.far b))) (Prod.snd (S.mul64 (S.far a) (S.far b))) 1000) fun o3 =>
      bif !!decide (a < 0) == decide (b < 0) then
        bif decide (9223372036854775807 < Prod.fst o3) then
          k (.tuple [.int .i64 9223372036854775807, .int .i64 2]) ([])
        else
          k (.tuple [.int .i64 (Go.IntKind.wrap .i64 (Prod.fst o3)), .int .i64 0]) ([])
      else
        bif decide (0 < Prod.snd o3) then
          bif decide (9223372036854775808 < Go.IntKind.wrap .u64 (Prod.fst o3 + 1)) then
            k (.tuple [.int .i64 (-9223372036854775808), .int .i64 2]) ([])
          else
            bif decide (0 < Prod.snd o3) then
              bif decide (Go.IntKind.wrap .u64 (Prod.fst o3 + 1) = 0) then
                k (.tuple [.int .i64 (-9223372036854775808), .int .i64 2]) ([])
              else
                k (.tuple [.int .i64 (Go.IntKind.wrap .i64 (0 - Go.IntKind.wrap .i64 (Go.IntKind.wrap .u64 (Prod.fst o3 + 1)))), .int .i64 0]) ([])
            else
              k (.tuple [.int .i64 (Go.IntKind.wrap .i64 (0 - Go.IntKind.wrap .i64 (Go.IntKind.wrap .u64 (Prod.fst o3 + 1)))), .int .i64 0]) ([])
        else
          bif decide (9223372036854775808 < Prod.fst o3) then
            k (.tuple [.int .i64 (-9223372036854775808), .int .i64 2]) ([])
          else
            bif decide (0 < Prod.snd o3) then
              bif decide (Prod.fst o3 = 0) then
                k (.tuple [.int .i64 (-9223372036854775808), .int .i64 2]) ([])
              else
                k (.tuple [.int .i64 (Go.IntKind.wrap .i64 (0 - Go.IntKind.wrap .i64 (Prod.fst o3))), .int .i64 0]) ([])
            else
              k (.tuple [.int .i64 (Go.IntKind.wrap .i64 (0 - Go.IntKind.wrap .i64 (Prod.fst o3))), .int .i64 0]) ([]))) := by kernel_rfl
def S.mmul (a b : Int) : Option (Int × Int) :=
  bif decide (1000 ≤ Prod.fst (S.mul64 (S.far a) (S.far b))) then
    some (Prod.fst (S.mend !!decide (a < 0) == decide (b < 0)), Prod.snd (S.mend !!decide (a < 0) == decide (b < 0)))
  else
    (optK (S.div64 100000 (Prod.fst (S.mul64 (S.far a) (S.far b))) (Prod.snd (S.mul64 (S.far a) (S.far b))) 1000) fun o3 =>
      bif !!decide (a < 0) == decide (b < 0) then
        bif decide (9223372036854775807 < Prod.fst o3) then
          some (9223372036854775807, 2)
        else
          some (Go.IntKind.wrap .i64 (Prod.fst o3), 0)
      else
        bif decide (0 < Prod.snd o3) then
          bif decide (9223372036854775808 < Go.IntKind.wrap .u64 (Prod.fst o3 + 1)) then
            some (-9223372036854775808, 2)
          else
            bif decide (0 < Prod.snd o3) then
              bif decide (Go.IntKind.wrap .u64 (Prod.fst o3 + 1) = 0) then
                some (-9223372036854775808, 2)
              else
                some (Go.IntKind.wrap .i64 (0 - Go.IntKind.wrap .i64 (Go.IntKind.wrap .u64 (Prod.fst o3 + 1))), 0)
            else
              some (Go.IntKind.wrap .i64 (0 - Go.IntKind.wrap .i64 (Go.IntKind.wrap .u64 (Prod.fst o3 + 1))), 0)
        else
          bif decide (9223372036854775808 < Prod.fst o3) then
            some (-9223372036854775808, 2)
          else
            bif decide (0 < Prod.snd o3) then
              bif decide (Prod.fst o3 = 0) then
                some (-9223372036854775808, 2)
              else
                some (Go.IntKind.wrap .i64 (0 - Go.IntKind.wrap .i64 (Prod.fst o3)), 0)
            else
              some (Go.IntKind.wrap .i64 (0 - Go.IntKind.wrap .i64 (Prod.fst o3)), 0))
theorem S.mmul_v {R : Type} (a b : Int) (k : AVal → List Blk → Option R) : fnEval tis F15 0 G42 Try.f15 [.int .i64 a, .int .i64 b] [] k = oK (fun v : Int × Int => k (.tuple [(.int .i64 v.1), (.int .i64 v.2)]) []) (S.mmul a b) :=
  (S.mmul_k a b k).trans (bif_lift (f := (oK (fun v : Int × Int => k (.tuple [(.int .i64 v.1), (.int .i64 v.2)]) []))) rfl (opt_lift fun o3 => (bif_lift (f := (oK (fun v : Int × Int => k (.tuple [(.int .i64 v.1), (.int .i64 v.2)]) []))) (bif_lift (f := (oK (fun v : Int × Int => k (.tuple [(.int .i64 v.1), (.int .i64 v.2)]) []))) rfl rfl) (bif_lift (f := (oK (fun v : Int × Int => k (.tuple [(.int .i64 v.1), (.int .i64 v.2)]) []))) (bif_lift (f := (oK (fun v : Int × Int => k (.tuple [(.int .i64 v.1), (.int .i64 v.2)]) []))) rfl (bif_lift (f := (oK (fun v : Int × Int => k (.tuple [(.int .i64 v.1), (.int .i64 v.2)]) []))) (bif_lift (f := (oK (fun v : Int × Int => k (.tuple [(.int .i64 v.1), (.int .i64 v.2)]) []))) rfl rfl) rfl)) (bif_lift (f := (oK (fun v : Int × Int => k (.tuple [(.int .i64 v.1), (.int .i64 v.2)]) []))) rfl (bif_lift (f := (oK (fun v : Int × Int => k (.tuple [(.int .i64 v.1), (.int .i64 v.2)]) []))) (bif_lift (f := (oK (fun v : Int × Int => k (.tuple [(.int .i64 v.1), (.int .i64 v.2)]) []))) rfl rfl) rfl))))))
def H15 : Hnd := fun R args σ k => match args, σ with
  | [.int .i64 a, .int .i64 b], [] => oK (fun v : Int × Int => k (.tuple [(.int .i64 v.1), (.int .i64 v.2)]) []) (S.mmul a b)
  | _, _ => none
theorem H15_ok : HndOk Try.prog 15 H15 := hnd_ok tis tisOk mixOk G42_ok F15 Try.func15 rfl (by
  intro R args σ k r h
  unfold H15 at h
  split at h
  · rename_i a b; exact ⟨0, (S.mmul_v a b _).trans h⟩
  · cases h)
def G15 : Env := Env.add 15 H15 G42
theorem G15_ok : EnvOk Try.prog G15 := envAdd_ok H15_ok G42_ok

/-! milli.Add -/
def F17 : FCfg := ⟨keepAt [(0, [0, 1]), (1, [0, 1, 23]), (2, [4, 5]), (3, [4, 5])], loopAt [], []⟩
theorem S.madd_k {R : Type} (a b : Int) (k : AVal → List Blk → Option R) : fnEval tis F17 0 G15 Try.f17 [.int .i64 a, .int .i64 b] [] k =
  (bif decide (0 < b) then
    bif decide (Go.IntKind.wrap .i64 (9223372036854775807 - b) < a) then
      k (.tuple [.int .i64 (Prod.fst (S.mend (decide (0 < b)))), .int .i64 (Prod.snd (S.mend (decide (0 < b))))]) ([])
    else
      bif decide (b < 0) then
        bif decide (a < Go.IntKind.wrap .i64 (-9223372036854775808 - b)) then
          k (.tuple [.int .i64 (Prod.fst (S.mend (decide (0 < b)))), .int .i64 (Prod.snd (S.mend (decide (0 < b))))]) ([])
        else
          k (.tuple [.int .i64 (Go.IntKind.wrap .i64 (a + b)), .int .i64 0]) ([])
      else
        k (.tuple [.int .i64 (Go.IntKind.wrap .i64 (a + b)), .int .i64 0]) ([])
  else
    bif decide (b < 0) then
      bif decide (a < Go.IntKind.wrap .i64 (-9223372036854775808 - b)) then
        k (.tuple [.int .i64 (Prod.fst (S.mend (decide (0 < b)))), .int .i64 (Prod.snd (S.mend (decide (0 < b))))]) ([])
      else
        k (.tuple [.int .i64 (Go.IntKind.wrap .i64 (a + b)), .int .i64 0]) ([])
    else
      k (.tuple [.int .i64 (Go.IntKind.wrap .i64 (a + b)), .int .i64 0]) ([])) := by kernel_rfl
def S.madd (a b : Int) : Int × Int :=
  bif decide (0 < b) then
    bif decide (Go.IntKind.wrap .i64 (9223372036854775807 - b) < a) then
      (Prod.fst (S.mend (decide (0 < b))), Prod.snd (S.mend (decide (0 < b))))
    else
      bif decide (b < 0) then
        bif decide (a < Go.IntKind.wrap .i64 (-9223372036854775808 - b)) then
          (Prod.fst (S.mend (decide (0 < b))), Prod.snd (S.mend (decide (0 < b))))
        else
          (Go.IntKind.wrap .i64 (a + b), 0)
      else
        (Go.IntKind.wrap .i64 (a + b), 0)
  else
    bif decide (b < 0) then
      bif decide (a < Go.IntKind.wrap .i64 (-9223372036854775808 - b)) then
        (Prod.fst (S.mend (decide (0 < b))), Prod.snd (S.mend (decide (0 < b))))
      else
        (Go.IntKind.wrap .i64 (a + b), 0)
    else
      (Go.IntKind.wrap .i64 (a + b), 0)
theorem S.madd_v {R : Type} (a b : Int) (k : AVal → List Blk → Option R) : fnEval tis F17 0 G15 Try.f17 [.int .i64 a, .int .i64 b] [] k = k (.tuple [(.int .i64 (S.madd a b).1), (.int .i64 (S.madd a b).2)]) [] :=
  (S.madd_k a b k).trans (bif_lift (f := (fun v : Int × Int => k (.tuple [(.int .i64 v.1), (.int .i64 v.2)]) [])) (bif_lift (f := (fun v : Int × Int => k (.tuple [(.int .i64 v.1), (.int .i64 v.2)]) [])) rfl (bif_lift (f := (fun v : Int × Int => k (.tuple [(.int .i64 v.1), (.int .i64 v.2)]) [])) (bif_lift (f := (fun v : Int × Int => k (.tuple [(.int .i64 v.1), (.int .i64 v.2)]) [])) rfl rfl) rfl)) (bif_lift (f := (fun v : Int × Int => k (.tuple [(.int .i64 v.1), (.int .i64 v.2)]) [])) (bif_lift (f := (fun v : Int × Int => k (.tuple [(.int .i64 v.1), (.int .i64 v.2)]) [])) rfl rfl) rfl))
def H17 : Hnd := fun R args σ k => match args, σ with
  | [.int .i64 a, .int .i64 b], [] => k (.tuple [(.int .i64 (S.madd a b).1), (.int .i64 (S.madd a b).2)]) []
  | _, _ => none
theorem H17_ok : HndOk Try.prog 17 H17 := hnd_ok tis tisOk mixOk G15_ok F17 Try.func17 rfl (by
  intro R args σ k r h
  unfold H17 at h
  split at h
  · rename_i a b; exact ⟨0, (S.madd_v a b _).trans h⟩
  · cases h)
def G17 : Env := Env.add 17 H17 G15
theorem G17_ok : EnvOk Try.prog G17 := envAdd_ok H17_ok G15_ok

/-! milli.Sub -/
def F19 : FCfg := ⟨keepAt [(0, [0, 1]), (1, [0, 1, 23]), (2, [4, 5]), (3, [4, 5])], loopAt [], []⟩
theorem S.msub_k {R : Type} (a b : Int) (k : AVal → List Blk → Option R) : fnEval tis F19 0 G17 Try.f19 [.int .i64 a, .int .i64 b] [] k =
  (bif decide (b < 0) then
    bif decide (Go.IntKind.wrap .i64 (9223372036854775807 + b) < a) then
      k (.tuple [.int .i64 (Prod.fst (S.mend (decide (b < 0)))), .int .i64 (Prod.snd (S.mend (decide (b < 0))))]) ([])
    else
      bif decide (0 < b) then
        bif decide (a < Go.IntKind.wrap .i64 (-9223372036854775808 + b)) then
          k (.tuple [.int .i64 (Prod.fst (S.mend (decide (b < 0)))), .int .i64 (Prod.snd (S.mend (decide (b < 0))))]) ([])
        else
          k (.tuple [.int .i64 (Go.IntKind.wrap .i64 (a - b)), .int .i64 0]) ([])
      else
        k (.tuple [.int .i64 (Go.IntKind.wrap .i64 (a - b)), .int .i64 0]) ([])
  else
    bif decide (0 < b) then
      bif decide (a < Go.IntKind.wrap .i64 (-9223372036854775808 + b)) then
        k (.tuple [.int .i64 (Prod.fst (S.mend (decide (b < 0)))), .int .i64 (Prod.snd (S.mend (decide (b < 0))))]) ([])
      else
        k (.tuple [.int .i64 (Go.IntKind.wrap .i64 (a - b)), .int .i64 0]) ([])
    else
      k (.tuple [.int .i64 (Go.IntKind.wrap .i64 (a - b)), .int .i64 0]) ([])) := by kernel_rfl
def S.msub (a b : Int) : Int × Int :=
  bif decide (b < 0) then
    bif decide (Go.IntKind.wrap .i64 (9223372036854775807 + b) < a) then
      (Prod.fst (S.mend (decide (b < 0))), Prod.snd (S.mend (decide (b < 0))))
    else
      bif decide (0 < b) then
        bif decide (a < Go.IntKind.wrap .i64 (-9223372036854775808 + b)) then
          (Prod.fst (S.mend (decide (b < 0))), Prod.snd (S.mend (decide (b < 0))))
        else
          (Go.IntKind.wrap .i64 (a - b), 0)
      else
        (Go.IntKind.wrap .i64 (a - b), 0)
  else
    bif decide (0 < b) then
      bif decide (a < Go.IntKind.wrap .i64 (-9223372036854775808 + b)) then
        (Prod.fst (S.mend (decide (b < 0))), Prod.snd (S.mend (decide (b < 0))))
      else
        (Go.IntKind.wrap .i64 (a - b), 0)
    else
      (Go.IntKind.wrap .i64 (a - b), 0)
theorem S.msub_v {R : Type} (a b : Int) (k : AVal → List Blk → Option R) : fnEval tis F19 0 G17 Try.f19 [.int .i64 a, .int .i64 b] [] k = k (.tuple [(.int .i64 (S.msub a b).1), (.int .i64 (S.msub a b).2)]) [] :=
  (S.msub_k a b k).trans (bif_lift (f := (fun v : Int × Int => k (.tuple [(.int .i64 v.1), (.int .i64 v.2)]) [])) (bif_lift (f := (fun v : Int × Int => k (.tuple [(.int .i64 v.1), (.int .i64 v.2)]) [])) rfl (bif_lift (f := (fun v : Int × Int => k (.tuple [(.int .i64 v.1), (.int .i64 v.2)]) [])) (bif_lift (f := (fun v : Int × Int => k (.tuple [(.int .i64 v.1), (.int .i64 v.2)]) [])) rfl rfl) rfl)) (bif_lift (f := (fun v : Int × Int => k (.tuple [(.int .i64 v.1), (.int .i64 v.2)]) [])) (bif_lift (f := (fun v : Int × Int => k (.tuple [(.int .i64 v.1), (.int .i64 v.2)]) [])) rfl rfl) rfl))
def H19 : Hnd := fun R args σ k => match args, σ with
  | [.int .i64 a, .int .i64 b], [] => k (.tuple [(.int .i64 (S.msub a b).1), (.int .i64 (S.msub a b).2)]) []
  | _, _ => none
theorem H19_ok : HndOk Try.prog 19 H19 := hnd_ok tis tisOk mixOk G17_ok F19 Try.func19 rfl (by
  intro R args σ k r h
  unfold H19 at h
  split at h
  · rename_i a b; exact ⟨0, (S.msub_v a b _).trans h⟩
  · cases h)
def G19 : Env := Env.add 19 H19 G17
theorem G19_ok : EnvOk Try.prog G19 := envAdd_ok H19_ok G17_ok

/-! milli.half -/
def F48 : FCfg := ⟨keepAt [(0, [0, 1]), (1, [0, 1, 6]), (2, [4, 5]), (3, [0, 1, 9]), (4, [4, 5]), (5, [4, 5])], loopAt [], []⟩
theorem S.mhalf_k {R : Type} (a b : Int) (k : AVal → List Blk → Option R) : fnEval tis F48 0 G19 Try.f48 [.int .i64 a, .int .i64 b] [] k =
  (bif decide (b = 0) then
    k (.tuple [.int .i64 0, .int .i64 3]) ([])
  else
    bif decide (a = -9223372036854775808) then
      bif decide (b = -1) then
        k (.tuple [.int .i64 9223372036854775807, .int .i64 2]) ([])
      else
        bif decide (b = 0) then
          none
        else
          k (.tuple [.int .i64 (Go.IntKind.wrap .i64 (Int.tdiv a b)), .int .i64 0]) ([])
    else
      bif decide (b = 0) then
        none
      else
        k (.tuple [.int .i64 (Go.IntKind.wrap .i64 (Int.tdiv a b)), .int .i64 0]) ([])) := by kernel_rfl
def S.mhalf (a b : Int) : Option (Int × Int) :=
  bif decide (b = 0) then
    some (0, 3)
  else
    bif decide (a = -9223372036854775808) then
      bif decide (b = -1) then
        some (9223372036854775807, 2)
      else
        bif decide (b = 0) then
          none
        else
          some (Go.IntKind.wrap .i64 (Int.tdiv a b), 0)
    else
      bif decide (b = 0) then
        none
      else
        some (Go.IntKind.wrap .i64 (Int.tdiv a b), 0)
theorem S.mhalf_v {R : Type} (a b : Int) (k : AVal → List Blk → Option R) : fnEval tis F48 0 G19 Try.f48 [.int .i64 a, .int .i64 b] [] k = oK (fun v : Int × Int => k (.tuple [(.int .i64 v.1), (.int .i64 v.2)]) []) (S.mhalf a b) :=
  (S.mhalf_k a b k).trans (bif_lift (f := (oK (fun v : Int × Int => k (.tuple [(.int .i64 v.1), (.int .i64 v.2)]) []))) rfl (bif_lift (f := (oK (fun v : Int × Int => k (.tuple [(.int .i64 v.1), (.int .i64 v.2)]) []))) (bif_lift (f := (oK (fun v : Int × Int => k (.tuple [(.int .i64 v.1), (.int .i64 v.2)]) []))) rfl (bif_lift (f := (oK (fun v : Int × Int => k (.tuple [(.int .i64 v.1), (.int .i64 v.2)]) []))) rfl rfl)) (bif_lift (f := (oK (fun v : Int × Int => k (.tuple [(.int .i64 v.1), (.int .i64 v.2)]) []))) rfl rfl)))
def H48 : Hnd := fun R args σ k => match args, σ with
  | [.int .i64 a, .int .i64 b], [] => oK (fun v : Int × Int => k (.tuple [(.int .i64 v.1), (.int .i64 v.2)]) []) (S.mhalf a b)
  | _, _ => none
theorem H48_ok : HndOk Try.prog 48 H48 := hnd_ok tis tisOk mixOk G19_ok F48 Try.func48 rfl (by
  intro R args σ k r h
  unfold H48 at h
  split at h
  · rename_i a b; exact ⟨0, (S.mhalf_v a b _).trans h⟩
  · cases h)
def G48 : Env := Env.add 48 H48 G19
theorem G48_ok : EnvOk Try.prog G48 := envAdd_ok H48_ok G19_ok

/-! milli.Up -/
def F22 : FCfg := ⟨keepAt [(0, [0, 1]), (1, [0, 1, 6, 7]), (2, [6, 7, 28]), (3, [6, 7]), (4, [4, 5])], loopAt [], []⟩
theorem S.mup_k {R : Type} (a b : Int) (k : AVal → List Blk → Option R) : fnEval tis F22 0 G48 Try.f22 [.int .i64 a, .int .i64 b] [] k =
  ((optK (S.mhalf a b) fun o2 =>
    bif decide (Prod.snd o2 = 0) then
      bif decide (b = 0) then
        none
      else
        bif !decide (Int.tmod a b = 0) then
          bif decide (a < 0) == decide (b < 0) then
            k (.tuple [.int .i64 (Go.IntKind.wrap .i64 (Prod.fst o2 + 1)), .int .i64 (Prod.snd o2)]) ([])
          else
            k (.tuple [.int .i64 (Prod.fst o2), .int .i64 (Prod.snd o2)]) ([])
        else
          k (.tuple [.int .i64 (Prod.fst o2), .int .i64 (Prod.snd o2)]) ([])
    else
      k (.tuple [.int .i64 (Prod.fst o2), .int .i64 (Prod.snd o2)]) ([]))) := by kernel_rfl
def S.mup (a b : Int) : Option (Int × Int) :=
  (optK (S.mhalf a b) fun o2 =>
    bif decide (Prod.snd o2 = 0) then
      bif decide (b = 0) then
        none
      else
        bif !decide (Int.tmod a b = 0) then
          bif decide (a < 0) == decide (b < 0) then
            some (Go.IntKind.wrap .i64 (Prod.fst o2 + 1), Prod.snd o2)
          else
            some (Prod.fst o2, Prod.snd o2)
        else
          some (Prod.fst o2, Prod.snd o2)
    else
      some (Prod.fst o2, Prod.snd o2))
theorem S.mup_v {R : Type} (a b : Int) (k : AVal → List Blk → Option R) : fnEval tis F22 0 G48 Try.f22 [.int .i64 a, .int .i64 b] [] k = oK (fun v : Int × Int => k (.tuple [(.int .i64 v.1), (.int .i64 v.2)]) []) (S.mup a b) :=
  (S.mup_k a b k).trans (opt_lift fun o2 => (bif_lift (f := (oK (fun v : Int × Int => k (.tuple [(.int .i64 v.1), (.int .i64 v.2)]) []))) (bif_lift (f := (oK (fun v : Int × Int => k (.tuple [(.int .i64 v.1), (.int .i64 v.2)]) []))) rfl (bif_lift (f := (oK (fun v : Int × Int => k (.tuple [(.int .i64 v.1), (.int .i64 v.2)]) []))) (bif_lift (f := (oK (fun v : Int × Int => k (.tuple [(.int .i64 v.1), (.int .i64 v.2)]) []))) rfl rfl) rfl)) rfl))
def H22 : Hnd := fun R args σ k => match args, σ with
  | [.int .i64 a, .int .i64 b], [] => oK (fun v : Int × Int => k (.tuple [(.int .i64 v.1), (.int .i64 v.2)]) []) (S.mup a b)
  | _, _ => none
theorem H22_ok : HndOk Try.prog 22 H22 := hnd_ok tis tisOk mixOk G48_ok F22 Try.func22 rfl (by
  intro R args σ k r h
  unfold H22 at h
  split at h
  · rename_i a b; exact ⟨0, (S.mup_v a b _).trans h⟩
  · cases h)
def G22 : Env := Env.add 22 H22 G48
theorem G22_ok : EnvOk Try.prog G22 := envAdd_ok H22_ok G48_ok

/-! milli.Down -/
def F24 : FCfg := ⟨keepAt [(0, [0, 1]), (1, [0, 1, 6, 7]), (2, [6, 7, 28]), (3, [6, 7]), (4, [4, 5])], loopAt [], []⟩
theorem S.mdown_k {R : Type} (a b : Int) (k : AVal → List Blk → Option R) : fnEval tis F24 0 G22 Try.f24 [.int .i64 a, .int .i64 b] [] k =
  ((optK (S.mhalf a b) fun o2 =>
    bif decide (Prod.snd o2 = 0) then
      bif decide (b = 0) then
        none
      else
        bif !decide (Int.tmod a b = 0) then
          bif !decide (a < 0) == decide (b < 0) then
            k (.tuple [.int .i64 (Go.IntKind.wrap .i64 (Prod.fst o2 - 1)), .int .i64 (Prod.snd o2)]) ([])
          else
            k (.tuple [.int .i64 (Prod.fst o2), .int .i64 (Prod.snd o2)]) ([])
        else
          k (.tuple [.int .i64 (Prod.fst o2), .int .i64 (Prod.snd o2)]) ([])
    else
      k (.tuple [.int .i64 (Prod.fst o2), .int .i64 (Prod.snd o2)]) ([]))) := by kernel_rfl
def S.mdown (a b : Int) : Option (Int × Int) :=
  (optK (S.mhalf a b) fun o2 =>
    bif decide (Prod.snd o2 = 0) then
      bif decide (b = 0) then
        none
      else
        bif !decide (Int.tmod a b = 0) then
          bif !decide (a < 0) == decide (b < 0) then
            some (Go.IntKind.wrap .i64 (Prod.fst o2 - 1), Prod.snd o2)
          else
            some (Prod.fst o2, Prod.snd o2)
        else
          some (Prod.fst o2, Prod.snd o2)
    else
      some (Prod.fst o2, Prod.snd o2))
theorem S.mdown_v {R : Type} (a b : Int) (k : AVal → List Blk → Option R) : fnEval tis F24 0 G22 Try.f24 [.int .i64 a, .int .i64 b] [] k = oK (fun v : Int × Int => k (.tuple [(.int .i64 v.1), (.int .i64 v.2)]) []) (S.mdown a b) :=
  (S.mdown_k a b k).trans (opt_lift fun o2 => (bif_lift (f := (oK (fun v : Int × Int => k (.tuple [(.int .i64 v.1), (.int .i64 v.2)]) []))) (bif_lift (f := (oK (fun v : Int × Int => k (.tuple [(.int .i64 v.1), (.int .i64 v.2)]) []))) rfl (bif_lift (f := (oK (fun v : Int × Int => k (.tuple [(.int .i64 v.1), (.int .i64 v.2)]) []))) (bif_lift (f := (oK (fun v : Int × Int => k (.tuple [(.int .i64 v.1), (.int .i64 v.2)]) []))) rfl rfl) rfl)) rfl))
def H24 : Hnd := fun R args σ k => match args, σ with
  | [.int .i64 a, .int .i64 b], [] => oK (fun v : Int × Int => k (.tuple [(.int .i64 v.1), (.int .i64 v.2)]) []) (S.mdown a b)
  | _, _ => none
theorem H24_ok : HndOk Try.prog 24 H24 := hnd_ok tis tisOk mixOk G22_ok F24 Try.func24 rfl (by
  intro R args σ k r h
  unfold H24 at h
  split at h
  · rename_i a b; exact ⟨0, (S.mdown_v a b _).trans h⟩
  · cases h)
def G24 : Env := Env.add 24 H24 G22
theorem G24_ok : EnvOk Try.prog G24 := envAdd_ok H24_ok G22_ok

/-! milli.Clamp -/
def F26 : FCfg := ⟨keepAt [(0, [0, 1, 2]), (1, [0, 1, 2, 7]), (2, [6]), (3, [0, 1, 12]), (4, [6]), (5, [6])], loopAt [], []⟩
theorem S.mclamp_k {R : Type} (a lo hi : Int) (k : AVal → List Blk → Option R) : fnEval tis F26 0 G24 Try.f26 [.int .i64 a, .int .i64 lo, .int .i64 hi] [] k =
  (bif decide (hi < a) then
    k (.int .i64 hi) ([])
  else
    bif decide (a < lo) then
      k (.int .i64 lo) ([])
    else
      k (.int .i64 a) ([])) := by kernel_rfl
def S.mclamp (a lo hi : Int) : Int :=
  bif decide (hi < a) then
    (hi)
  else
    bif decide (a < lo) then
      (lo)
    else
      (a)
theorem S.mclamp_v {R : Type} (a lo hi : Int) (k : AVal → List Blk → Option R) : fnEval tis F26 0 G24 Try.f26 [.int .i64 a, .int .i64 lo, .int .i64 hi] [] k = k (.int .i64 (S.mclamp a lo hi)) [] :=
  (S.mclamp_k a lo hi k).trans (bif_lift (f := (fun v : Int => k (.int .i64 v) [])) rfl (bif_lift (f := (fun v : Int => k (.int .i64 v) [])) rfl rfl))
def H26 : Hnd := fun R args σ k => match args, σ with
  | [.int .i64 a, .int .i64 lo, .int .i64 hi], [] => k (.int .i64 (S.mclamp a lo hi)) []
  | _, _ => none
theorem H26_ok : HndOk Try.prog 26 H26 := hnd_ok tis tisOk mixOk G24_ok F26 Try.func26 rfl (by
  intro R args σ k r h
  unfold H26 at h
  split at h
  · rename_i a lo hi; exact ⟨0, (S.mclamp_v a lo hi _).trans h⟩
  · cases h)
def G26 : Env := Env.add 26 H26 G24
theorem G26_ok : EnvOk Try.prog G26 := envAdd_ok H26_ok G24_ok
end Go.Proofs.Ytjbdlnomjkhhbaa.AB
