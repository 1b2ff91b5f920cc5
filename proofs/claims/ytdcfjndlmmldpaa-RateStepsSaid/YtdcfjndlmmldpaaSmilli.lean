/- The functions of layer 1 that are used, as plain functions. -/
import Derived.Test.YtdcfjndlmmldpaaSrconf
namespace Go.Proofs.Ytdcfjndlmmldpaa.AB
set_option linter.unusedVariables false

/-! spinnakerref1.Default -/
def F21 : FCfg := ⟨keepAt [(0, [0, 1]), (1, [0])], loopAt [], []⟩
theorem S.dflt_k {R : Type}  (k : AVal → List Blk → Option R) : fnEval tis F21 0 G23 Try.f21 [] [] k =
  (k (.agg [.int .i64 10000, .int .i64 700, .int .i64 60, .int .i64 6, .int .i64 1, .int .i64 2000, .int .i64 10000, .int .i64 2000, .int .i64 0, .int .i64 0, .int .i64 1, .int .i64 30, .int .i64 0, .int .i64 20000, .int .i64 10, .int .i64 100, .int .i64 60, .int .i64 3, .int .i64 0, .int .i64 0]) ([])) := by kernel_rfl
def S.dflt  : Int × Int × Int × Int × Int × Int × Int × Int × Int × Int × Int × Int × Int × Int × Int × Int × Int × Int × Int × Int :=
  (10000, 700, 60, 6, 1, 2000, 10000, 2000, 0, 0, 1, 30, 0, 20000, 10, 100, 60, 3, 0, 0)
theorem S.dflt_v {R : Type}  (k : AVal → List Blk → Option R) : fnEval tis F21 0 G23 Try.f21 [] [] k = k (.agg [(.int .i64 (S.dflt).1), (.int .i64 (S.dflt).2.1), (.int .i64 (S.dflt).2.2.1), (.int .i64 (S.dflt).2.2.2.1), (.int .i64 (S.dflt).2.2.2.2.1), (.int .i64 (S.dflt).2.2.2.2.2.1), (.int .i64 (S.dflt).2.2.2.2.2.2.1), (.int .i64 (S.dflt).2.2.2.2.2.2.2.1), (.int .i64 (S.dflt).2.2.2.2.2.2.2.2.1), (.int .i64 (S.dflt).2.2.2.2.2.2.2.2.2.1), (.int .i64 (S.dflt).2.2.2.2.2.2.2.2.2.2.1), (.int .i64 (S.dflt).2.2.2.2.2.2.2.2.2.2.2.1), (.int .i64 (S.dflt).2.2.2.2.2.2.2.2.2.2.2.2.1), (.int .i64 (S.dflt).2.2.2.2.2.2.2.2.2.2.2.2.2.1), (.int .i64 (S.dflt).2.2.2.2.2.2.2.2.2.2.2.2.2.2.1), (.int .i64 (S.dflt).2.2.2.2.2.2.2.2.2.2.2.2.2.2.2.1), (.int .i64 (S.dflt).2.2.2.2.2.2.2.2.2.2.2.2.2.2.2.2.1), (.int .i64 (S.dflt).2.2.2.2.2.2.2.2.2.2.2.2.2.2.2.2.2.1), (.int .i64 (S.dflt).2.2.2.2.2.2.2.2.2.2.2.2.2.2.2.2.2.2.1), (.int .i64 (S.dflt).2.2.2.2.2.2.2.2.2.2.2.2.2.2.2.2.2.2.2)]) [] :=
  (S.dflt_k k).trans rfl
def H21 : Hnd := fun R args σ k => match args, σ with
  | [], [] => k (.agg [(.int .i64 (S.dflt).1), (.int .i64 (S.dflt).2.1), (.int .i64 (S.dflt).2.2.1), (.int .i64 (S.dflt).2.2.2.1), (.int .i64 (S.dflt).2.2.2.2.1), (.int .i64 (S.dflt).2.2.2.2.2.1), (.int .i64 (S.dflt).2.2.2.2.2.2.1), (.int .i64 (S.dflt).2.2.2.2.2.2.2.1), (.int .i64 (S.dflt).2.2.2.2.2.2.2.2.1), (.int .i64 (S.dflt).2.2.2.2.2.2.2.2.2.1), (.int .i64 (S.dflt).2.2.2.2.2.2.2.2.2.2.1), (.int .i64 (S.dflt).2.2.2.2.2.2.2.2.2.2.2.1), (.int .i64 (S.dflt).2.2.2.2.2.2.2.2.2.2.2.2.1), (.int .i64 (S.dflt).2.2.2.2.2.2.2.2.2.2.2.2.2.1), (.int .i64 (S.dflt).2.2.2.2.2.2.2.2.2.2.2.2.2.2.1), (.int .i64 (S.dflt).2.2.2.2.2.2.2.2.2.2.2.2.2.2.2.1), (.int .i64 (S.dflt).2.2.2.2.2.2.2.2.2.2.2.2.2.2.2.2.1), (.int .i64 (S.dflt).2.2.2.2.2.2.2.2.2.2.2.2.2.2.2.2.2.1), (.int .i64 (S.dflt).2.2.2.2.2.2.2.2.2.2.2.2.2.2.2.2.2.2.1), (.int .i64 (S.dflt).2.2.2.2.2.2.2.2.2.2.2.2.2.2.2.2.2.2.2)]) []
  | _, _ => none
theorem H21_ok : HndOk Try.prog 21 H21 := hnd_ok tis tisOk mixOk G23_ok F21 Try.func21 rfl (by
  intro R args σ k r h
  unfold H21 at h
  split at h
  · exact ⟨0, (S.dflt_v _).trans h⟩
  · cases h)
def G21 : Env := Env.add 21 H21 G23
theorem G21_ok : EnvOk Try.prog G21 := envAdd_ok H21_ok G23_ok

/-! milli.end -/
def F51 : FCfg := ⟨keepAt [(0, [0, 6, 7, 8, 9, 10, 11, 12, 13]), (1, [4, 5, 11, 12, 13]), (2, [14]), (3, [2, 3]), (4, [2, 3])], loopAt [], []⟩
theorem S.mend_k {R : Type} (up : Bool) (k : AVal → List Blk → Option R) : fnEval tis F51 0 G21 Try.f51 [.iface 4 (.bool up)] [] k =
  (bif up then
    k (.tuple [.int .i64 9223372036854775807, .int .i64 2]) ([])
  else
    k (.tuple [.int .i64 (-9223372036854775808), .int .i64 2]) ([])) := by kernel_rfl
def S.mend (up : Bool) : Int × Int :=
  bif up then
    (9223372036854775807, 2)
  else
    (-9223372036854775808, 2)
theorem S.mend_v {R : Type} (up : Bool) (k : AVal → List Blk → Option R) : fnEval tis F51 0 G21 Try.f51 [.iface 4 (.bool up)] [] k = k (.tuple [(.int .i64 (S.mend up).1), (.int .i64 (S.mend up).2)]) [] :=
  (S.mend_k up k).trans (bif_lift (f := (fun v : Int × Int => k (.tuple [(.int .i64 v.1), (.int .i64 v.2)]) [])) rfl rfl)
def H51 : Hnd := fun R args σ k => match args, σ with
  | [.iface 4 (.bool up)], [] => k (.tuple [(.int .i64 (S.mend up).1), (.int .i64 (S.mend up).2)]) []
  | _, _ => none
theorem H51_ok : HndOk Try.prog 51 H51 := hnd_ok tis tisOk mixOk G21_ok F51 Try.func51 rfl (by
  intro R args σ k r h
  unfold H51 at h
  split at h
  · rename_i up; exact ⟨0, (S.mend_v up _).trans h⟩
  · cases h)
def G51 : Env := Env.add 51 H51 G21
theorem G51_ok : EnvOk Try.prog G51 := envAdd_ok H51_ok G21_ok

/-! milli.Sub -/
def F39 : FCfg := ⟨keepAt [(0, [0, 1, 6, 7, 8, 9, 10, 11, 12, 13, 14, 15, 16, 17, 18, 19, 20, 21, 22, 24, 25, 26, 27, 28, 29, 30, 31, 32]), (1, [0, 1, 23, 24, 25, 26, 27, 28, 29, 30, 31, 32]), (2, [4, 5]), (3, [4, 5])], loopAt [], []⟩
theorem S.msub_k {R : Type} (a b : Int) (k : AVal → List Blk → Option R) : fnEval tis F39 0 G51 Try.f39 [.int .i64 a, .int .i64 b] [] k =
  (bif decide (b < 0) then
    bif decide (Go.IntKind.wrap .i64 (9223372036854775807 + b) < a) then
      k (.tuple [.int .i64 (Prod.fst (S.mend (decide (b < 0)))), .int .i64 (Prod.snd (S.mend (decide (b < 0))))]) ([])
    else
      bif decide (0 < b) then
        bif decide (a < Go.IntKind.wrap .i64 (-9223372036854775808 + b)) then
          k (.tuple [.int .i64 (Prod.fst (S.mend (decide (b < 0)))), .int .i64 (Prod.snd (S.mend (decide (b < 0))))]) ([])
        else
          k (.tuple [.int .i64 (Go.IntKind.wrap .i64 (a - b)), .int .i64 0]) ([])
      else
        k (.tuple [.int .i64 (Go.IntKind.wrap .i64 (a - b)), .int .i64 0]) ([])
  else
    bif decide (0 < b) then
      bif decide (a < Go.IntKind.wrap .i64 (-9223372036854775808 + b)) then
        k (.tuple [.int .i64 (Prod.fst (S.mend (decide (b < 0)))), .int .i64 (Prod.snd (S.mend (decide (b < 0))))]) ([])
      else
        k (.tuple [.int .i64 (Go.IntKind.wrap .i64 (a - b)), .int .i64 0]) ([])
    else
      k (.tuple [.int .i64 (Go.IntKind.wrap .i64 (a - b)), .int .i64 0]) ([])) := by kernel_rfl
def S.msub (a b : Int) : Int × Int :=
  bif decide (b < 0) then
    bif decide (Go.IntKind.wrap .i64 (9223372036854775807 + b) < a) then
      (Prod.fst (S.mend (decide (b < 0))), Prod.snd (S.mend (decide (b < 0))))
    else
      bif decide (0 < b) then
        bif decide (a < Go.IntKind.wrap .i64 (-9223372036854775808 + b)) then
          (Prod.fst (S.mend (decide (b < 0))), Prod.snd (S.mend (decide (b < 0))))
        else
          (Go.IntKind.wrap .i64 (a - b), 0)
      else
        (Go.IntKind.wrap .i64 (a - b), 0)
  else
    bif decide (0 < b) then
      bif decide (a < Go.IntKind.wrap .i64 (-9223372036854775808 + b)) then
        (Prod.fst (S.mend (decide (b < 0))), Prod.snd (S.mend (decide (b < 0))))
      else
        (Go.IntKind.wrap .i64 (a - b), 0)
    else
      (Go.IntKind.wrap .i64 (a - b), 0)
theorem S.msub_v {R : Type} (a b : Int) (k : AVal → List Blk → Option R) : fnEval tis F39 0 G51 Try.f39 [.int .i64 a, .int .i64 b] [] k = k (.tuple [(.int .i64 (S.msub a b).1), (.int .i64 (S.msub a b).2)]) [] :=
  (S.msub_k a b k).trans (bif_lift (f := (fun v : Int × Int => k (.tuple [(.int .i64 v.1), (.int .i64 v.2)]) [])) (bif_lift (f := (fun v : Int × Int => k (.tuple [(.int .i64 v.1), (.int .i64 v.2)]) [])) rfl (bif_lift (f := (fun v : Int × Int => k (.tuple [(.int .i64 v.1), (.int .i64 v.2)]) [])) (bif_lift (f := (fun v : Int × Int => k (.tuple [(.int .i64 v.1), (.int .i64 v.2)]) [])) rfl rfl) rfl)) (bif_lift (f := (fun v : Int × Int => k (.tuple [(.int .i64 v.1), (.int .i64 v.2)]) [])) (bif_lift (f := (fun v : Int × Int => k (.tuple [(.int .i64 v.1), (.int .i64 v.2)]) [])) rfl rfl) rfl))
def H39 : Hnd := fun R args σ k => match args, σ with
  | [.int .i64 a, .int .i64 b], [] => k (.tuple [(.int .i64 (S.msub a b).1), (.int .i64 (S.msub a b).2)]) []
  | _, _ => none
theorem H39_ok : HndOk Try.prog 39 H39 := hnd_ok tis tisOk mixOk G51_ok F39 Try.func39 rfl (by
  intro R args σ k r h
  unfold H39 at h
  split at h
  · rename_i a b; exact ⟨0, (S.msub_v a b _).trans h⟩
  · cases h)
def G39 : Env := Env.add 39 H39 G51
theorem G39_ok : EnvOk Try.prog G39 := envAdd_ok H39_ok G51_ok

/-! spinnakerref1.Sub -/
def F41 : FCfg := ⟨keepAt [(0, [0, 1, 6, 7, 8, 9, 10, 11, 12, 14, 15, 16, 17, 18, 19, 20, 22, 23, 24]), (1, [0, 1, 13, 14, 15, 16, 17, 18, 19, 20, 22, 23, 24]), (2, [4, 5]), (3, [0, 1, 21, 22, 23, 24]), (4, [4, 5]), (5, [4, 5])], loopAt [], []⟩
theorem S.rsub_k {R : Type} (a b : Int) (k : AVal → List Blk → Option R) : fnEval tis F41 0 G39 Try.f41 [.int .i64 a, .int .i64 b] [] k =
  (bif decide (b < 0) then
    bif decide (Go.IntKind.wrap .i64 (9223372036854775807 + b) < a) then
      k (.tuple [.int .i64 9223372036854775807, .int .i64 2]) ([])
    else
      bif decide (0 < b) then
        bif decide (a < Go.IntKind.wrap .i64 (-9223372036854775808 + b)) then
          k (.tuple [.int .i64 (-9223372036854775808), .int .i64 2]) ([])
        else
          k (.tuple [.int .i64 (Go.IntKind.wrap .i64 (a - b)), .int .i64 0]) ([])
      else
        k (.tuple [.int .i64 (Go.IntKind.wrap .i64 (a - b)), .int .i64 0]) ([])
  else
    bif decide (0 < b) then
      bif decide (a < Go.IntKind.wrap .i64 (-9223372036854775808 + b)) then
        k (.tuple [.int .i64 (-9223372036854775808), .int .i64 2]) ([])
      else
        k (.tuple [.int .i64 (Go.IntKind.wrap .i64 (a - b)), .int .i64 0]) ([])
    else
      k (.tuple [.int .i64 (Go.IntKind.wrap .i64 (a - b)), .int .i64 0]) ([])) := by kernel_rfl
def S.rsub (a b : Int) : Int × Int :=
  bif decide (b < 0) then
    bif decide (Go.IntKind.wrap .i64 (9223372036854775807 + b) < a) then
      (9223372036854775807, 2)
    else
      bif decide (0 < b) then
        bif decide (a < Go.IntKind.wrap .i64 (-9223372036854775808 + b)) then
          (-9223372036854775808, 2)
        else
          (Go.IntKind.wrap .i64 (a - b), 0)
      else
        (Go.IntKind.wrap .i64 (a - b), 0)
  else
    bif decide (0 < b) then
      bif decide (a < Go.IntKind.wrap .i64 (-9223372036854775808 + b)) then
        (-9223372036854775808, 2)
      else
        (Go.IntKind.wrap .i64 (a - b), 0)
    else
      (Go.IntKind.wrap .i64 (a - b), 0)
theorem S.rsub_v {R : Type} (a b : Int) (k : AVal → List Blk → Option R) : fnEval tis F41 0 G39 Try.f41 [.int .i64 a, .int .i64 b] [] k = k (.tuple [(.int .i64 (S.rsub a b).1), (.int .i64 (S.rsub a b).2)]) [] :=
  (S.rsub_k a b k).trans (bif_lift (f := (fun v : Int × Int => k (.tuple [(.int .i64 v.1), (.int .i64 v.2)]) [])) (bif_lift (f := (fun v : Int × Int => k (.tuple [(.int .i64 v.1), (.int .i64 v.2)]) [])) rfl (bif_lift (f := (fun v : Int × Int => k (.tuple [(.int .i64 v.1), (.int .i64 v.2)]) [])) (bif_lift (f := (fun v : Int × Int => k (.tuple [(.int .i64 v.1), (.int .i64 v.2)]) [])) rfl rfl) rfl)) (bif_lift (f := (fun v : Int × Int => k (.tuple [(.int .i64 v.1), (.int .i64 v.2)]) [])) (bif_lift (f := (fun v : Int × Int => k (.tuple [(.int .i64 v.1), (.int .i64 v.2)]) [])) rfl rfl) rfl))
def H41 : Hnd := fun R args σ k => match args, σ with
  | [.int .i64 a, .int .i64 b], [] => k (.tuple [(.int .i64 (S.rsub a b).1), (.int .i64 (S.rsub a b).2)]) []
  | _, _ => none
theorem H41_ok : HndOk Try.prog 41 H41 := hnd_ok tis tisOk mixOk G39_ok F41 Try.func41 rfl (by
  intro R args σ k r h
  unfold H41 at h
  split at h
  · rename_i a b; exact ⟨0, (S.rsub_v a b _).trans h⟩
  · cases h)
def G41 : Env := Env.add 41 H41 G39
theorem G41_ok : EnvOk Try.prog G41 := envAdd_ok H41_ok G39_ok

/-! milli.half -/
def F52 : FCfg := ⟨keepAt [(0, [0, 1, 7, 8, 10, 11, 12, 13, 14, 15, 16, 17, 18, 19, 20, 21, 22]), (1, [0, 1, 6, 10, 11, 12, 13, 14, 15, 16, 17, 18, 19, 20, 21, 22]), (2, [4, 5]), (3, [0, 1, 9, 16, 17, 18, 19, 20, 21, 22]), (4, [4, 5]), (5, [4, 5])], loopAt [], []⟩
theorem S.mhalf_k {R : Type} (a b : Int) (k : AVal → List Blk → Option R) : fnEval tis F52 0 G41 Try.f52 [.int .i64 a, .int .i64 b] [] k =
  (bif decide (b = 0) then
    k (.tuple [.int .i64 0, .int .i64 3]) ([])
  else
    bif decide (a = -9223372036854775808) then
      bif decide (b = -1) then
        k (.tuple [.int .i64 9223372036854775807, .int .i64 2]) ([])
      else
        bif decide (b = 0) then
          none
        else
          k (.tuple [.int .i64 (Go.IntKind.wrap .i64 (Int.tdiv a b)), .int .i64 0]) ([])
    else
      bif decide (b = 0) then
        none
      else
        k (.tuple [.int .i64 (Go.IntKind.wrap .i64 (Int.tdiv a b)), .int .i64 0]) ([])) := by kernel_rfl
def S.mhalf (a b : Int) : Option (Int × Int) :=
  bif decide (b = 0) then
    some (0, 3)
  else
    bif decide (a = -9223372036854775808) then
      bif decide (b = -1) then
        some (9223372036854775807, 2)
      else
        bif decide (b = 0) then
          none
        else
          some (Go.IntKind.wrap .i64 (Int.tdiv a b), 0)
    else
      bif decide (b = 0) then
        none
      else
        some (Go.IntKind.wrap .i64 (Int.tdiv a b), 0)
theorem S.mhalf_v {R : Type} (a b : Int) (k : AVal → List Blk → Option R) : fnEval tis F52 0 G41 Try.f52 [.int .i64 a, .int .i64 b] [] k = oK (fun v : Int × Int => k (.tuple [(.int .i64 v.1), (.int .i64 v.2)]) []) (S.mhalf a b) :=
  (S.mhalf_k a b k).trans (bif_lift (f := (oK (fun v : Int × Int => k (.tuple [(.int .i64 v.1), (.int .i64 v.2)]) []))) rfl (bif_lift (f := (oK (fun v : Int × Int => k (.tuple [(.int .i64 v.1), (.int .i64 v.2)]) []))) (bif_lift (f := (oK (fun v : Int × Int => k (.tuple [(.int .i64 v.1), (.int .i64 v.2)]) []))) rfl (bif_lift (f := (oK (fun v : Int × Int => k (.tuple [(.int .i64 v.1), (.int .i64 v.2)]) []))) rfl rfl)) (bif_lift (f := (oK (fun v : Int × Int => k (.tuple [(.int .i64 v.1), (.int .i64 v.2)]) []))) rfl rfl)))
def H52 : Hnd := fun R args σ k => match args, σ with
  | [.int .i64 a, .int .i64 b], [] => oK (fun v : Int × Int => k (.tuple [(.int .i64 v.1), (.int .i64 v.2)]) []) (S.mhalf a b)
  | _, _ => none
theorem H52_ok : HndOk Try.prog 52 H52 := hnd_ok tis tisOk mixOk G41_ok F52 Try.func52 rfl (by
  intro R args σ k r h
  unfold H52 at h
  split at h
  · rename_i a b; exact ⟨0, (S.mhalf_v a b _).trans h⟩
  · cases h)
def G52 : Env := Env.add 52 H52 G41
theorem G52_ok : EnvOk Try.prog G52 := envAdd_ok H52_ok G41_ok

/-! milli.Up -/
def F45 : FCfg := ⟨keepAt [(0, [0, 1, 8, 9, 10, 11, 12, 13, 14, 15, 16, 17, 18, 19, 20, 21, 22, 23, 24, 25, 26, 27, 29, 30, 31, 32]), (1, [0, 1, 6, 7, 14, 15, 16, 17, 18, 19, 20, 21, 22, 23, 24, 25, 26, 27, 29, 30, 31, 32]), (2, [6, 7, 28, 29, 30, 31, 32]), (3, [6, 7, 31, 32]), (4, [4, 5])], loopAt [], []⟩
theorem S.mup_k {R : Type} (a b : Int) (k : AVal → List Blk → Option R) : fnEval tis F45 0 G52 Try.f45 [.int .i64 a, .int .i64 b] [] k =
  ((optK (S.mhalf a b) fun o2 =>
    bif decide (Prod.snd o2 = 0) then
      bif decide (b = 0) then
        none
      else
        bif !decide (Int.tmod a b = 0) then
          bif decide (a < 0) == decide (b < 0) then
            k (.tuple [.int .i64 (Go.IntKind.wrap .i64 (Prod.fst o2 + 1)), .int .i64 (Prod.snd o2)]) ([])
          else
            k (.tuple [.int .i64 (Prod.fst o2), .int .i64 (Prod.snd o2)]) ([])
        else
          k (.tuple [.int .i64 (Prod.fst o2), .int .i64 (Prod.snd o2)]) ([])
    else
      k (.tuple [.int .i64 (Prod.fst o2), .int .i64 (Prod.snd o2)]) ([]))) := by kernel_rfl
def S.mup (a b : Int) : Option (Int × Int) :=
  (optK (S.mhalf a b) fun o2 =>
    bif decide (Prod.snd o2 = 0) then
      bif decide (b = 0) then
        none
      else
        bif !decide (Int.tmod a b = 0) then
          bif decide (a < 0) == decide (b < 0) then
            some (Go.IntKind.wrap .i64 (Prod.fst o2 + 1), Prod.snd o2)
          else
            some (Prod.fst o2, Prod.snd o2)
        else
          some (Prod.fst o2, Prod.snd o2)
    else
      some (Prod.fst o2, Prod.snd o2))
theorem S.mup_v {R : Type} (a b : Int) (k : AVal → List Blk → Option R) : fnEval tis F45 0 G52 Try.f45 [.int .i64 a, .int .i64 b] [] k = oK (fun v : Int × Int => k (.tuple [(.int .i64 v.1), (.int .i64 v.2)]) []) (S.mup a b) :=
  (S.mup_k a b k).trans (opt_lift fun o2 => (bif_lift (f := (oK (fun v : Int × Int => k (.tuple [(.int .i64 v.1), (.int .i64 v.2)]) []))) (bif_lift (f := (oK (fun v : Int × Int => k (.tuple [(.int .i64 v.1), (.int .i64 v.2)]) []))) rfl (bif_lift (f := (oK (fun v : Int × Int => k (.tuple [(.int .i64 v.1), (.int .i64 v.2)]) []))) (bif_lift (f := (oK (fun v : Int × Int => k (.tuple [(.int .i64 v.1), (.int .i64 v.2)]) []))) rfl rfl) rfl)) rfl))
def H45 : Hnd := fun R args σ k => match args, σ with
  | [.int .i64 a, .int .i64 b], [] => oK (fun v : Int × Int => k (.tuple [(.int .i64 v.1), (.int .i64 v.2)]) []) (S.mup a b)
  | _, _ => none
theorem H45_ok : HndOk Try.prog 45 H45 := hnd_ok tis tisOk mixOk G52_ok F45 Try.func45 rfl (by
  intro R args σ k r h
  unfold H45 at h
  split at h
  · rename_i a b; exact ⟨0, (S.mup_v a b _).trans h⟩
  · cases h)
def G45 : Env := Env.add 45 H45 G52
theorem G45_ok : EnvOk Try.prog G45 := envAdd_ok H45_ok G52_ok

/-! milli.Down -/
def F43 : FCfg := ⟨keepAt [(0, [0, 1, 8, 9, 10, 11, 12, 13, 14, 15, 16, 17, 18, 19, 20, 21, 22, 23, 24, 25, 26, 27, 29, 30, 31, 32]), (1, [0, 1, 6, 7, 14, 15, 16, 17, 18, 19, 20, 21, 22, 23, 24, 25, 26, 27, 29, 30, 31, 32]), (2, [6, 7, 28, 29, 30, 31, 32]), (3, [6, 7, 31, 32]), (4, [4, 5])], loopAt [], []⟩
theorem S.mdown_k {R : Type} (a b : Int) (k : AVal → List Blk → Option R) : fnEval tis F43 0 G45 Try.f43 [.int .i64 a, .int .i64 b] [] k =
  ((optK (S.mhalf a b) fun o2 =>
    bif decide (Prod.snd o2 = 0) then
      bif decide (b = 0) then
        none
      else
        bif !decide (Int.tmod a b = 0) then
          bif !decide (a < 0) == decide (b < 0) then
            k (.tuple [.int .i64 (Go.IntKind.wrap .i64 (Prod.fst o2 - 1)), .int .i64 (Prod.snd o2)]) ([])
          else
            k (.tuple [.int .i64 (Prod.fst o2), .int .i64 (Prod.snd o2)]) ([])
        else
          k (.tuple [.int .i64 (Prod.fst o2), .int .i64 (Prod.snd o2)]) ([])
    else
      k (.tuple [.int .i64 (Prod.fst o2), .int .i64 (Prod.snd o2)]) ([]))) := by kernel_rfl
def S.mdown (a b : Int) : Option (Int × Int) :=
  (optK (S.mhalf a b) fun o2 =>
    bif decide (Prod.snd o2 = 0) then
      bif decide (b = 0) then
        none
      else
        bif !decide (Int.tmod a b = 0) then
          bif !decide (a < 0) == decide (b < 0) then
            some (Go.IntKind.wrap .i64 (Prod.fst o2 - 1), Prod.snd o2)
          else
            some (Prod.fst o2, Prod.snd o2)
        else
          some (Prod.fst o2, Prod.snd o2)
    else
      some (Prod.fst o2, Prod.snd o2))
theorem S.mdown_v {R : Type} (a b : Int) (k : AVal → List Blk → Option R) : fnEval tis F43 0 G45 Try.f43 [.int .i64 a, .int .i64 b] [] k = oK (fun v : Int × Int => k (.tuple [(.int .i64 v.1), (.int .i64 v.2)]) []) (S.mdown a b) :=
  (S.mdown_k a b k).trans (opt_lift fun o2 => (bif_lift (f := (oK (fun v : Int × Int => k (.tuple [(.int .i64 v.1), (.int .i64 v.2)]) []))) (bif_lift (f := (oK (fun v : Int × Int => k (.tuple [(.int .i64 v.1), (.int .i64 v.2)]) []))) rfl (bif_lift (f := (oK (fun v : Int × Int => k (.tuple [(.int .i64 v.1), (.int .i64 v.2)]) []))) (bif_lift (f := (oK (fun v : Int × Int => k (.tuple [(.int .i64 v.1), (.int .i64 v.2)]) []))) rfl rfl) rfl)) rfl))
def H43 : Hnd := fun R args σ k => match args, σ with
  | [.int .i64 a, .int .i64 b], [] => oK (fun v : Int × Int => k (.tuple [(.int .i64 v.1), (.int .i64 v.2)]) []) (S.mdown a b)
  | _, _ => none
theorem H43_ok : HndOk Try.prog 43 H43 := hnd_ok tis tisOk mixOk G45_ok F43 Try.func43 rfl (by
  intro R args σ k r h
  unfold H43 at h
  split at h
  · rename_i a b; exact ⟨0, (S.mdown_v a b _).trans h⟩
  · cases h)
def G43 : Env := Env.add 43 H43 G45
theorem G43_ok : EnvOk Try.prog G43 := envAdd_ok H43_ok G45_ok

/-! spinnakerref1.Up -/
def F46 : FCfg := ⟨keepAt [(0, [0, 1, 8, 9, 11, 12, 13, 14, 15, 16, 17, 18, 19, 20, 21, 22, 23, 24, 25, 26, 27, 28, 29, 31, 32, 33]), (1, [0, 1, 7, 11, 12, 13, 14, 15, 16, 17, 18, 19, 20, 21, 22, 23, 24, 25, 26, 27, 28, 29, 31, 32, 33]), (2, [4, 5]), (3, [0, 1, 10, 17, 18, 19, 20, 21, 22, 23, 24, 25, 26, 27, 28, 29, 31, 32, 33]), (4, [4, 5]), (5, [0, 1, 6, 20, 21, 22, 23, 24, 25, 26, 27, 28, 29, 31, 32, 33]), (6, [6, 30, 31, 32, 33]), (7, [6, 33]), (8, [4, 5])], loopAt [], []⟩
theorem S.rup_k {R : Type} (a b : Int) (k : AVal → List Blk → Option R) : fnEval tis F46 0 G43 Try.f46 [.int .i64 a, .int .i64 b] [] k =
  (bif decide (b = 0) then
    k (.tuple [.int .i64 0, .int .i64 3]) ([])
  else
    bif decide (a = -9223372036854775808) then
      bif decide (b = -1) then
        k (.tuple [.int .i64 9223372036854775807, .int .i64 2]) ([])
      else
        bif decide (b = 0) then
          none
        else
          bif decide (b = 0) then
            none
          else
            bif !decide (Int.tmod a b = 0) then
              bif decide (a < 0) == decide (b < 0) then
                k (.tuple [.int .i64 (Go.IntKind.wrap .i64 (Go.IntKind.wrap .i64 (Int.tdiv a b) + 1)), .int .i64 0]) ([])
              else
                k (.tuple [.int .i64 (Go.IntKind.wrap .i64 (Int.tdiv a b)), .int .i64 0]) ([])
            else
              k (.tuple [.int .i64 (Go.IntKind.wrap .i64 (Int.tdiv a b)), .int .i64 0]) ([])
    else
      bif decide (b = 0) then
        none
      else
        bif decide (b = 0) then
          none
        else
          bif !decide (Int.tmod a b = 0) then
            bif decide (a < 0) == decide (b < 0) then
              k (.tuple [.int .i64 (Go.IntKind.wrap .i64 (Go.IntKind.wrap .i64 (Int.tdiv a b) + 1)), .int .i64 0]) ([])
            else
              k (.tuple [.int .i64 (Go.IntKind.wrap .i64 (Int.tdiv a b)), .int .i64 0]) ([])
          else
            k (.tuple [.int .i64 (Go.IntKind.wrap .i64 (Int.tdiv a b)), .int .i64 0]) ([])) := by kernel_rfl
def S.rup (a b : Int) : Option (Int × Int) :=
  bif decide (b = 0) then
    some (0, 3)
  else
    bif decide (a = -9223372036854775808) then
      bif decide (b = -1) then
        some (9223372036854775807, 2)
      else
        bif decide (b = 0) then
          none
        else
          bif decide (b = 0) then
            none
          else
            bif !decide (Int.tmod a b = 0) then
              bif decide (a < 0) == decide (b < 0) then
                some (Go.IntKind.wrap .i64 (Go.IntKind.wrap .i64 (Int.tdiv a b) + 1), 0)
              else
                some (Go.IntKind.wrap .i64 (Int.tdiv a b), 0)
            else
              some (Go.IntKind.wrap .i64 (Int.tdiv a b), 0)
    else
      bif decide (b = 0) then
        none
      else
        bif decide (b = 0) then
          none
        else
          bif !decide (Int.tmod a b = 0) then
            bif decide (a < 0) == decide (b < 0) then
              some (Go.IntKind.wrap .i64 (Go.IntKind.wrap .i64 (Int.tdiv a b) + 1), 0)
            else
              some (Go.IntKind.wrap .i64 (Int.tdiv a b), 0)
          else
            some (Go.IntKind.wrap .i64 (Int.tdiv a b), 0)
theorem S.rup_v {R : Type} (a b : Int) (k : AVal → List Blk → Option R) : fnEval tis F46 0 G43 Try.f46 [.int .i64 a, .int .i64 b] [] k = oK (fun v : Int × Int => k (.tuple [(.int .i64 v.1), (.int .i64 v.2)]) []) (S.rup a b) :=
  (S.rup_k a b k).trans (bif_lift (f := (oK (fun v : Int × Int => k (.tuple [(.int .i64 v.1), (.int .i64 v.2)]) []))) rfl (bif_lift (f := (oK (fun v : Int × Int => k (.tuple [(.int .i64 v.1), (.int .i64 v.2)]) []))) (bif_lift (f := (oK (fun v : Int × Int => k (.tuple [(.int .i64 v.1), (.int .i64 v.2)]) []))) rfl (bif_lift (f := (oK (fun v : Int × Int => k (.tuple [(.int .i64 v.1), (.int .i64 v.2)]) []))) rfl (bif_lift (f := (oK (fun v : Int × Int => k (.tuple [(.int .i64 v.1), (.int .i64 v.2)]) []))) rfl (bif_lift (f := (oK (fun v : Int × Int => k (.tuple [(.int .i64 v.1), (.int .i64 v.2)]) []))) (bif_lift (f := (oK (fun v : Int × Int => k (.tuple [(.int .i64 v.1), (.int .i64 v.2)]) []))) rfl rfl) rfl)))) (bif_lift (f := (oK (fun v : Int × Int => k (.tuple [(.int .i64 v.1), (.int .i64 v.2)]) []))) rfl (bif_lift (f := (oK (fun v : Int × Int => k (.tuple [(.int .i64 v.1), (.int .i64 v.2)]) []))) rfl (bif_lift (f := (oK (fun v : Int × Int => k (.tuple [(.int .i64 v.1), (.int .i64 v.2)]) []))) (bif_lift (f := (oK (fun v : Int × Int => k (.tuple [(.int .i64 v.1), (.int .i64 v.2)]) []))) rfl rfl) rfl)))))
def H46 : Hnd := fun R args σ k => match args, σ with
  | [.int .i64 a, .int .i64 b], [] => oK (fun v : Int × Int => k (.tuple [(.int .i64 v.1), (.int .i64 v.2)]) []) (S.rup a b)
  | _, _ => none
theorem H46_ok : HndOk Try.prog 46 H46 := hnd_ok tis tisOk mixOk G43_ok F46 Try.func46 rfl (by
  intro R args σ k r h
  unfold H46 at h
  split at h
  · rename_i a b; exact ⟨0, (S.rup_v a b _).trans h⟩
  · cases h)
def G46 : Env := Env.add 46 H46 G43
theorem G46_ok : EnvOk Try.prog G46 := envAdd_ok H46_ok G43_ok

/-! spinnakerref12.cut -/
def F42 : FCfg := ⟨keepAt [(0, [0, 1, 5, 6, 7, 8]), (1, [4])], loopAt [], []⟩
theorem S.rcut_k {R : Type} (n lo : Int) (k : AVal → List Blk → Option R) : fnEval tis F42 0 G46 Try.f42 [.int .i64 n, .int .i64 lo] [] k =
  (k (.int .i64 (if 1000000 < if lo > n then lo else n then 1000000 else if lo > n then lo else n)) ([])) := by kernel_rfl
def S.rcut (n lo : Int) : Int :=
  (if 1000000 < if lo > n then lo else n then 1000000 else if lo > n then lo else n)
theorem S.rcut_v {R : Type} (n lo : Int) (k : AVal → List Blk → Option R) : fnEval tis F42 0 G46 Try.f42 [.int .i64 n, .int .i64 lo] [] k = k (.int .i64 (S.rcut n lo)) [] :=
  (S.rcut_k n lo k).trans rfl
def H42 : Hnd := fun R args σ k => match args, σ with
  | [.int .i64 n, .int .i64 lo], [] => k (.int .i64 (S.rcut n lo)) []
  | _, _ => none
theorem H42_ok : HndOk Try.prog 42 H42 := hnd_ok tis tisOk mixOk G46_ok F42 Try.func42 rfl (by
  intro R args σ k r h
  unfold H42 at h
  split at h
  · rename_i n lo; exact ⟨0, (S.rcut_v n lo _).trans h⟩
  · cases h)
def G42 : Env := Env.add 42 H42 G46
theorem G42_ok : EnvOk Try.prog G42 := envAdd_ok H42_ok G46_ok
end Go.Proofs.Ytdcfjndlmmldpaa.AB
