/- The functions of layer 14, as plain functions. -/
import Derived.Test.YtfoaihjkmfhaoaaSconf
namespace Go.Proofs.Ytfoaihjkmfhaoaa.AB
set_option linter.unusedVariables false

/-! alarm.panics -/
def F59 : FCfg := ⟨keepAt [(0, [0, 3, 5, 6, 7, 8, 9, 10, 11, 12, 13, 14, 15]), (1, [3, 4, 10, 11, 12, 13, 14, 15]), (2, [2])], loopAt [], []⟩
theorem S.panics_k {R : Type} (t m : Int) (k : AVal → List Blk → Option R) : fnEval tis F59 0 G57 Try.f59 [.iface 59 (.agg [.int .i64 t, .int .i64 m])] [] k =
  (k (.bool (decide (0 ≤ t))) ([])) := by kernel_rfl
def S.panics (t m : Int) : Bool :=
  (decide (0 ≤ t))
theorem S.panics_v {R : Type} (t m : Int) (k : AVal → List Blk → Option R) : fnEval tis F59 0 G57 Try.f59 [.iface 59 (.agg [.int .i64 t, .int .i64 m])] [] k = k (.bool (S.panics t m)) [] :=
  (S.panics_k t m k).trans rfl
def H59 : Hnd := fun R args σ k => match args, σ with
  | [.iface 59 (.agg [.int .i64 t, .int .i64 m])], [] => k (.bool (S.panics t m)) []
  | _, _ => none
theorem H59_ok : HndOk Try.prog 59 H59 := hnd_ok tis tisOk mixOk G57_ok F59 Try.func59 rfl (by
  intro R args σ k r h
  unfold H59 at h
  split at h
  · rename_i t m; exact ⟨0, (S.panics_v t m _).trans h⟩
  · cases h)
def G59 : Env := Env.add 59 H59 G57
theorem G59_ok : EnvOk Try.prog G59 := envAdd_ok H59_ok G57_ok

/-! alarm.Is -/
def F41 : FCfg := ⟨keepAt [(0, [1, 3, 4, 5]), (1, [2])], loopAt [], []⟩
theorem S.is_k {R : Type} (t m : Int) (k : AVal → List Blk → Option R) : fnEval tis F41 0 G59 Try.f41 [.agg [.int .i64 t, .int .i64 m]] [] k =
  (k (.bool (S.panics t m)) ([])) := by kernel_rfl
def S.is (t m : Int) : Bool :=
  (S.panics t m)
theorem S.is_v {R : Type} (t m : Int) (k : AVal → List Blk → Option R) : fnEval tis F41 0 G59 Try.f41 [.agg [.int .i64 t, .int .i64 m]] [] k = k (.bool (S.is t m)) [] :=
  (S.is_k t m k).trans rfl
def H41 : Hnd := fun R args σ k => match args, σ with
  | [.agg [.int .i64 t, .int .i64 m]], [] => k (.bool (S.is t m)) []
  | _, _ => none
theorem H41_ok : HndOk Try.prog 41 H41 := hnd_ok tis tisOk mixOk G59_ok F41 Try.func41 rfl (by
  intro R args σ k r h
  unfold H41 at h
  split at h
  · rename_i t m; exact ⟨0, (S.is_v t m _).trans h⟩
  · cases h)
def G41 : Env := Env.add 41 H41 G59
theorem G41_ok : EnvOk Try.prog G41 := envAdd_ok H41_ok G59_ok

/-! alarm.Keep -/
def F38 : FCfg := ⟨keepAt [(0, [1, 2, 4, 6, 7, 9, 10, 11, 12, 13, 14, 15, 16, 17, 18]), (1, [1, 2, 4, 8, 9, 10, 11, 12, 13, 14, 15, 16, 17, 18]), (2, [4, 5]), (3, [2, 4, 16, 17, 18]), (4, [4, 5])], loopAt [], []⟩
theorem S.keep_k {R : Type} (t m w : Int) (k : AVal → List Blk → Option R) : fnEval tis F38 0 G41 Try.f38 [.agg [.int .i64 t, .int .i64 m], .int .i64 w] [] k =
  (bif !S.is t m then
    k (.tuple [.agg [.int .i64 t, .int .i64 m], .int .i64 w]) ([])
  else
    k (.tuple [.agg [.int .i64 t, .int .i64 (bif true then if w > m then w else m else if w < m then w else m)], .int .i64 (bif true then if w > m then w else m else if w < m then w else m)]) ([])) := by kernel_rfl
def S.keep (t m w : Int) : Int × Int × Int :=
  bif !S.is t m then
    (t, m, w)
  else
    (t, bif true then if w > m then w else m else if w < m then w else m, bif true then if w > m then w else m else if w < m then w else m)
theorem S.keep_v {R : Type} (t m w : Int) (k : AVal → List Blk → Option R) : fnEval tis F38 0 G41 Try.f38 [.agg [.int .i64 t, .int .i64 m], .int .i64 w] [] k = k (.tuple [(.agg [(.int .i64 (S.keep t m w).1), (.int .i64 (S.keep t m w).2.1)]), (.int .i64 (S.keep t m w).2.2)]) [] :=
  (S.keep_k t m w k).trans (bif_lift (f := (fun v : Int × Int × Int => k (.tuple [(.agg [(.int .i64 v.1), (.int .i64 v.2.1)]), (.int .i64 v.2.2)]) [])) rfl rfl)
def H38 : Hnd := fun R args σ k => match args, σ with
  | [.agg [.int .i64 t, .int .i64 m], .int .i64 w], [] => k (.tuple [(.agg [(.int .i64 (S.keep t m w).1), (.int .i64 (S.keep t m w).2.1)]), (.int .i64 (S.keep t m w).2.2)]) []
  | _, _ => none
theorem H38_ok : HndOk Try.prog 38 H38 := hnd_ok tis tisOk mixOk G41_ok F38 Try.func38 rfl (by
  intro R args σ k r h
  unfold H38 at h
  split at h
  · rename_i t m w; exact ⟨0, (S.keep_v t m w _).trans h⟩
  · cases h)
def G38 : Env := Env.add 38 H38 G41
theorem G38_ok : EnvOk Try.prog G38 := envAdd_ok H38_ok G41_ok

/-! alarm.Calm -/
def F44 : FCfg := ⟨keepAt [(0, [0, 1]), (1, [0])], loopAt [], []⟩
theorem S.calm_k {R : Type}  (k : AVal → List Blk → Option R) : fnEval tis F44 0 G38 Try.f44 [] [] k =
  (k (.agg [.int .i64 (-1), .int .i64 0]) ([])) := by kernel_rfl
def S.calm  : Int × Int :=
  (-1, 0)
theorem S.calm_v {R : Type}  (k : AVal → List Blk → Option R) : fnEval tis F44 0 G38 Try.f44 [] [] k = k (.agg [(.int .i64 (S.calm).1), (.int .i64 (S.calm).2)]) [] :=
  (S.calm_k k).trans rfl
def H44 : Hnd := fun R args σ k => match args, σ with
  | [], [] => k (.agg [(.int .i64 (S.calm).1), (.int .i64 (S.calm).2)]) []
  | _, _ => none
theorem H44_ok : HndOk Try.prog 44 H44 := hnd_ok tis tisOk mixOk G38_ok F44 Try.func44 rfl (by
  intro R args σ k r h
  unfold H44 at h
  split at h
  · exact ⟨0, (S.calm_v _).trans h⟩
  · cases h)
def G44 : Env := Env.add 44 H44 G38
theorem G44_ok : EnvOk Try.prog G44 := envAdd_ok H44_ok G38_ok

/-! alarm.Next -/
def F36 : FCfg := ⟨keepAt [(0, [2, 3, 4, 5, 8, 10, 11, 12, 13, 14, 15, 16, 17, 18, 19, 20, 21, 23, 24, 25, 26, 27, 28, 29, 30, 32, 33, 34, 36, 37, 38, 39, 40, 41, 42, 43, 44, 45, 46, 47, 48]), (1, [2, 3, 4, 5, 8, 9, 21, 23, 24, 25, 26, 27, 28, 29, 30, 32, 33, 34, 36, 37, 38, 39, 40, 41, 42, 43, 44, 45, 46, 47, 48]), (2, [8]), (3, [2, 3, 4, 5, 8, 22, 28, 29, 30, 32, 33, 34, 36, 37, 38, 39, 40, 41, 42, 43, 44, 45, 46, 47, 48]), (4, [5, 8, 30]), (5, [8]), (6, [2, 4, 5, 8, 31, 33, 34, 36, 37, 38, 39, 40, 41, 42, 43, 44, 45, 46, 47, 48]), (7, [8]), (8, [5, 8, 35, 47, 48]), (9, [8]), (10, [8])], loopAt [], []⟩
theorem S.next_k {R : Type} (c : Cf) (t m now : Int) (over : Bool) (k : AVal → List Blk → Option R) : fnEval tis F36 0 G44 Try.f36 [.agg (cfA c), .agg [.int .i64 t, .int .i64 m], .int .i64 now, .bool over] [] k =
  (bif !S.may (Cf.mk (Cf.target c) (Cf.util c) (Cf.stable c) (Cf.panic c) (Cf.grain c) (Cf.threshold c) (Cf.up c) (Cf.down c) (Cf.min c) (Cf.max c) (Cf.initial c) (Cf.grace c) (Cf.delay c) (Cf.burst c) (Cf.limit c) (Cf.queue c) (Cf.timeout c) (Cf.ready c) (Cf.subset c) (Cf.sample c)) then
    k (.agg [.int .i64 t, .int .i64 m]) ([])
  else
    bif decide (now < 0) then
      k (.agg [.int .i64 t, .int .i64 m]) ([])
    else
      bif decide (1099511627776 < now) then
        k (.agg [.int .i64 t, .int .i64 m]) ([])
      else
        bif over then
          bif S.is t m then
            k (.agg [.int .i64 now, .int .i64 m]) ([])
          else
            bif over then
              k (.agg [.int .i64 now, .int .i64 0]) ([])
            else
              bif S.is t m then
                bif decide (Cf.stable c ≤ Go.IntKind.wrap .i64 (now - t)) then
                  k (.agg [.int .i64 (-1), .int .i64 0]) ([])
                else
                  k (.agg [.int .i64 t, .int .i64 m]) ([])
              else
                k (.agg [.int .i64 t, .int .i64 m]) ([])
        else
          bif over then
            k (.agg [.int .i64 now, .int .i64 0]) ([])
          else
            bif S.is t m then
              bif decide (Cf.stable c ≤ Go.IntKind.wrap .i64 (now - t)) then
                k (.agg [.int .i64 (-1), .int .i64 0]) ([])
              else
                k (.agg [.int .i64 t, .int .i64 m]) ([])
            else
              k (.agg [.int .i64 t, .int .i64 m]) ([])) := by kernel_rfl
def S.next (c : Cf) (t m now : Int) (over : Bool) : Int × Int :=
  bif !S.may (Cf.mk (Cf.target c) (Cf.util c) (Cf.stable c) (Cf.panic c) (Cf.grain c) (Cf.threshold c) (Cf.up c) (Cf.down c) (Cf.min c) (Cf.max c) (Cf.initial c) (Cf.grace c) (Cf.delay c) (Cf.burst c) (Cf.limit c) (Cf.queue c) (Cf.timeout c) (Cf.ready c) (Cf.subset c) (Cf.sample c)) then
    (t, m)
  else
    bif decide (now < 0) then
      (t, m)
    else
      bif decide (1099511627776 < now) then
        (t, m)
      else
        bif over then
          bif S.is t m then
            (now, m)
          else
            bif over then
              (now, 0)
            else
              bif S.is t m then
                bif decide (Cf.stable c ≤ Go.IntKind.wrap .i64 (now - t)) then
                  (-1, 0)
                else
                  (t, m)
              else
                (t, m)
        else
          bif over then
            (now, 0)
          else
            bif S.is t m then
              bif decide (Cf.stable c ≤ Go.IntKind.wrap .i64 (now - t)) then
                (-1, 0)
              else
                (t, m)
            else
              (t, m)
theorem S.next_v {R : Type} (c : Cf) (t m now : Int) (over : Bool) (k : AVal → List Blk → Option R) : fnEval tis F36 0 G44 Try.f36 [.agg (cfA c), .agg [.int .i64 t, .int .i64 m], .int .i64 now, .bool over] [] k = k (.agg [(.int .i64 (S.next c t m now over).1), (.int .i64 (S.next c t m now over).2)]) [] :=
  (S.next_k c t m now over k).trans (bif_lift (f := (fun v : Int × Int => k (.agg [(.int .i64 v.1), (.int .i64 v.2)]) [])) rfl (bif_lift (f := (fun v : Int × Int => k (.agg [(.int .i64 v.1), (.int .i64 v.2)]) [])) rfl (bif_lift (f := (fun v : Int × Int => k (.agg [(.int .i64 v.1), (.int .i64 v.2)]) [])) rfl (bif_lift (f := (fun v : Int × Int => k (.agg [(.int .i64 v.1), (.int .i64 v.2)]) [])) (bif_lift (f := (fun v : Int × Int => k (.agg [(.int .i64 v.1), (.int .i64 v.2)]) [])) rfl (bif_lift (f := (fun v : Int × Int => k (.agg [(.int .i64 v.1), (.int .i64 v.2)]) [])) rfl (bif_lift (f := (fun v : Int × Int => k (.agg [(.int .i64 v.1), (.int .i64 v.2)]) [])) (bif_lift (f := (fun v : Int × Int => k (.agg [(.int .i64 v.1), (.int .i64 v.2)]) [])) rfl rfl) rfl))) (bif_lift (f := (fun v : Int × Int => k (.agg [(.int .i64 v.1), (.int .i64 v.2)]) [])) rfl (bif_lift (f := (fun v : Int × Int => k (.agg [(.int .i64 v.1), (.int .i64 v.2)]) [])) (bif_lift (f := (fun v : Int × Int => k (.agg [(.int .i64 v.1), (.int .i64 v.2)]) [])) rfl rfl) rfl))))))
def H36 : Hnd := fun R args σ k => match args, σ with
  | [.agg [.int .i64 target_, .int .i64 util_, .int .i64 stable_, .int .i64 panic_, .int .i64 grain_, .int .i64 threshold_, .int .i64 up_, .int .i64 down_, .int .i64 min_, .int .i64 max_, .int .i64 initial_, .int .i64 grace_, .int .i64 delay_, .int .i64 burst_, .int .i64 limit_, .int .i64 queue_, .int .i64 timeout_, .int .i64 ready_, .int .i64 subset_, .int .i64 sample_], .agg [.int .i64 t, .int .i64 m], .int .i64 now, .bool over], [] => k (.agg [(.int .i64 (S.next ⟨target_, util_, stable_, panic_, grain_, threshold_, up_, down_, min_, max_, initial_, grace_, delay_, burst_, limit_, queue_, timeout_, ready_, subset_, sample_⟩ t m now over).1), (.int .i64 (S.next ⟨target_, util_, stable_, panic_, grain_, threshold_, up_, down_, min_, max_, initial_, grace_, delay_, burst_, limit_, queue_, timeout_, ready_, subset_, sample_⟩ t m now over).2)]) []
  | _, _ => none
theorem H36_ok : HndOk Try.prog 36 H36 := hnd_ok tis tisOk mixOk G44_ok F36 Try.func36 rfl (by
  intro R args σ k r h
  unfold H36 at h
  split at h
  · rename_i target_ util_ stable_ panic_ grain_ threshold_ up_ down_ min_ max_ initial_ grace_ delay_ burst_ limit_ queue_ timeout_ ready_ subset_ sample_ t m now over; exact ⟨0, (S.next_v ⟨target_, util_, stable_, panic_, grain_, threshold_, up_, down_, min_, max_, initial_, grace_, delay_, burst_, limit_, queue_, timeout_, ready_, subset_, sample_⟩ t m now over _).trans h⟩
  · cases h)
def G36 : Env := Env.add 36 H36 G44
theorem G36_ok : EnvOk Try.prog G36 := envAdd_ok H36_ok G44_ok

/-! spinnakerref1.Default -/
def F43 : FCfg := ⟨keepAt [(0, [0, 1]), (1, [0])], loopAt [], []⟩
theorem S.dflt_k {R : Type}  (k : AVal → List Blk → Option R) : fnEval tis F43 0 G36 Try.f43 [] [] k =
  (k (.agg [.int .i64 10000, .int .i64 700, .int .i64 60, .int .i64 6, .int .i64 1, .int .i64 2000, .int .i64 10000, .int .i64 2000, .int .i64 0, .int .i64 0, .int .i64 1, .int .i64 30, .int .i64 0, .int .i64 20000, .int .i64 10, .int .i64 100, .int .i64 60, .int .i64 3, .int .i64 0, .int .i64 0]) ([])) := by kernel_rfl
def S.dflt  : Int × Int × Int × Int × Int × Int × Int × Int × Int × Int × Int × Int × Int × Int × Int × Int × Int × Int × Int × Int :=
  (10000, 700, 60, 6, 1, 2000, 10000, 2000, 0, 0, 1, 30, 0, 20000, 10, 100, 60, 3, 0, 0)
theorem S.dflt_v {R : Type}  (k : AVal → List Blk → Option R) : fnEval tis F43 0 G36 Try.f43 [] [] k = k (.agg [(.int .i64 (S.dflt).1), (.int .i64 (S.dflt).2.1), (.int .i64 (S.dflt).2.2.1), (.int .i64 (S.dflt).2.2.2.1), (.int .i64 (S.dflt).2.2.2.2.1), (.int .i64 (S.dflt).2.2.2.2.2.1), (.int .i64 (S.dflt).2.2.2.2.2.2.1), (.int .i64 (S.dflt).2.2.2.2.2.2.2.1), (.int .i64 (S.dflt).2.2.2.2.2.2.2.2.1), (.int .i64 (S.dflt).2.2.2.2.2.2.2.2.2.1), (.int .i64 (S.dflt).2.2.2.2.2.2.2.2.2.2.1), (.int .i64 (S.dflt).2.2.2.2.2.2.2.2.2.2.2.1), (.int .i64 (S.dflt).2.2.2.2.2.2.2.2.2.2.2.2.1), (.int .i64 (S.dflt).2.2.2.2.2.2.2.2.2.2.2.2.2.1), (.int .i64 (S.dflt).2.2.2.2.2.2.2.2.2.2.2.2.2.2.1), (.int .i64 (S.dflt).2.2.2.2.2.2.2.2.2.2.2.2.2.2.2.1), (.int .i64 (S.dflt).2.2.2.2.2.2.2.2.2.2.2.2.2.2.2.2.1), (.int .i64 (S.dflt).2.2.2.2.2.2.2.2.2.2.2.2.2.2.2.2.2.1), (.int .i64 (S.dflt).2.2.2.2.2.2.2.2.2.2.2.2.2.2.2.2.2.2.1), (.int .i64 (S.dflt).2.2.2.2.2.2.2.2.2.2.2.2.2.2.2.2.2.2.2)]) [] :=
  (S.dflt_k k).trans rfl
def H43 : Hnd := fun R args σ k => match args, σ with
  | [], [] => k (.agg [(.int .i64 (S.dflt).1), (.int .i64 (S.dflt).2.1), (.int .i64 (S.dflt).2.2.1), (.int .i64 (S.dflt).2.2.2.1), (.int .i64 (S.dflt).2.2.2.2.1), (.int .i64 (S.dflt).2.2.2.2.2.1), (.int .i64 (S.dflt).2.2.2.2.2.2.1), (.int .i64 (S.dflt).2.2.2.2.2.2.2.1), (.int .i64 (S.dflt).2.2.2.2.2.2.2.2.1), (.int .i64 (S.dflt).2.2.2.2.2.2.2.2.2.1), (.int .i64 (S.dflt).2.2.2.2.2.2.2.2.2.2.1), (.int .i64 (S.dflt).2.2.2.2.2.2.2.2.2.2.2.1), (.int .i64 (S.dflt).2.2.2.2.2.2.2.2.2.2.2.2.1), (.int .i64 (S.dflt).2.2.2.2.2.2.2.2.2.2.2.2.2.1), (.int .i64 (S.dflt).2.2.2.2.2.2.2.2.2.2.2.2.2.2.1), (.int .i64 (S.dflt).2.2.2.2.2.2.2.2.2.2.2.2.2.2.2.1), (.int .i64 (S.dflt).2.2.2.2.2.2.2.2.2.2.2.2.2.2.2.2.1), (.int .i64 (S.dflt).2.2.2.2.2.2.2.2.2.2.2.2.2.2.2.2.2.1), (.int .i64 (S.dflt).2.2.2.2.2.2.2.2.2.2.2.2.2.2.2.2.2.2.1), (.int .i64 (S.dflt).2.2.2.2.2.2.2.2.2.2.2.2.2.2.2.2.2.2.2)]) []
  | _, _ => none
theorem H43_ok : HndOk Try.prog 43 H43 := hnd_ok tis tisOk mixOk G36_ok F43 Try.func43 rfl (by
  intro R args σ k r h
  unfold H43 at h
  split at h
  · exact ⟨0, (S.dflt_v _).trans h⟩
  · cases h)
def G43 : Env := Env.add 43 H43 G36
theorem G43_ok : EnvOk Try.prog G43 := envAdd_ok H43_ok G36_ok

/-! spinnakerlaw14.told -/
def F40 : FCfg := ⟨keepAt [(0, [1, 2, 3, 4, 6, 8, 9, 10, 12, 13, 14, 15, 16, 17, 18, 19, 20, 21, 22, 23, 24, 25, 26, 27, 28, 29, 30, 31, 32, 33, 34, 35, 36, 37, 38, 39, 40, 41, 42, 43, 44, 45, 46, 47, 48, 49, 50, 51, 52, 53, 54, 55, 56, 57, 58, 59, 60, 61, 62, 63, 64, 65, 66, 67, 68, 69, 70, 71, 72, 73, 74, 75, 76, 77, 78, 79, 80, 81, 82, 83, 84, 85, 86, 87, 88, 89, 90, 91, 92, 93, 94, 95, 96, 97, 98, 99, 100, 101]), (1, [1, 2, 3, 4, 6, 8, 9, 10, 13, 14, 15, 16, 17, 18, 19, 20, 21, 22, 23, 24, 25, 26, 27, 28, 29, 30, 31, 32, 33, 34, 35, 36, 37, 38, 39, 40, 41, 42, 43, 44, 45, 46, 47, 48, 49, 50, 51, 52, 53, 54, 55, 56, 57, 58, 59, 60, 61, 62, 63, 64, 65, 66, 67, 68, 69, 70, 71, 72, 73, 74, 75, 76, 77, 78, 79, 80, 81, 82, 83, 84, 85, 86, 87, 88, 89, 90, 91, 92, 93, 94, 95, 96, 97, 98, 99, 100, 101]), (2, [1, 2, 3, 4, 6, 8, 9, 10, 14, 15, 16, 17, 18, 19, 20, 21, 22, 23, 24, 25, 26, 27, 28, 29, 30, 31, 32, 33, 34, 35, 36, 37, 38, 39, 40, 41, 42, 43, 44, 45, 46, 47, 48, 49, 50, 51, 52, 53, 54, 55, 56, 57, 58, 59, 60, 61, 62, 63, 64, 65, 66, 67, 68, 69, 70, 71, 72, 73, 74, 75, 76, 77, 78, 79, 80, 81, 82, 83, 84, 85, 86, 87, 88, 89, 90, 91, 92, 93, 94, 95, 96, 97, 98, 99, 100, 101]), (3, [1, 2, 3, 4, 6, 8, 9, 10, 17, 18, 19, 20, 21, 22, 23, 24, 25, 26, 27, 28, 29, 30, 31, 32, 33, 34, 35, 36, 37, 38, 39, 40, 41, 42, 43, 44, 45, 46, 47, 48, 49, 50, 51, 52, 53, 54, 55, 56, 57, 58, 59, 60, 61, 62, 63, 64, 65, 66, 67, 68, 69, 70, 71, 72, 73, 74, 75, 76, 77, 78, 79, 80, 81, 82, 83, 84, 85, 86, 87, 88, 89, 90, 91, 92, 93, 94, 95, 96, 97, 98, 99, 100, 101]), (4, [1, 2, 3, 4, 5, 6, 8, 9, 10, 22, 23, 24, 25, 26, 27, 28, 29, 30, 31, 32, 33, 34, 35, 36, 37, 38, 39, 40, 41, 42, 43, 44, 45, 46, 47, 48, 49, 50, 51, 52, 53, 54, 55, 56, 57, 58, 59, 60, 61, 62, 63, 64, 65, 66, 67, 68, 69, 70, 71, 72, 73, 74, 75, 76, 77, 78, 79, 80, 81, 82, 83, 84, 85, 86, 87, 88, 89, 90, 91, 92, 93, 94, 95, 96, 97, 98, 99, 100, 101]), (5, [1, 2, 3, 4, 5, 6, 7, 8, 9, 10, 27, 28, 29, 30, 31, 32, 33, 34, 35, 36, 37, 38, 39, 40, 41, 42, 43, 44, 45, 46, 47, 48, 49, 50, 51, 52, 53, 54, 55, 56, 57, 58, 59, 60, 61, 62, 63, 64, 65, 66, 67, 68, 69, 70, 71, 72, 73, 74, 75, 76, 77, 78, 79, 80, 81, 82, 83, 84, 85, 86, 87, 88, 89, 90, 91, 92, 93, 94, 95, 96, 97, 98, 99, 100, 101]), (6, [1, 2, 3, 4, 5, 6, 7, 8, 9, 10, 30, 31, 32, 33, 34, 35, 36, 37, 38, 39, 40, 41, 42, 43, 44, 45, 46, 47, 48, 49, 50, 51, 52, 53, 54, 55, 56, 57, 58, 59, 60, 61, 62, 63, 64, 65, 66, 67, 68, 69, 70, 71, 72, 73, 74, 75, 76, 77, 78, 79, 80, 81, 82, 83, 84, 85, 86, 87, 88, 89, 90, 91, 92, 93, 94, 95, 96, 97, 98, 99, 100, 101]), (7, [1, 2, 3, 4, 5, 6, 7, 8, 9, 10, 33, 34, 35, 36, 37, 38, 39, 40, 41, 42, 43, 44, 45, 46, 47, 48, 49, 50, 51, 52, 53, 54, 55, 56, 57, 58, 59, 60, 61, 62, 63, 64, 65, 66, 67, 68, 69, 70, 71, 72, 73, 74, 75, 76, 77, 78, 79, 80, 81, 82, 83, 84, 85, 86, 87, 88, 89, 90, 91, 92, 93, 94, 95, 96, 97, 98, 99, 100, 101]), (8, [1, 2, 3, 4, 5, 6, 7, 8, 9, 10, 11, 38, 39, 40, 41, 42, 43, 44, 45, 46, 47, 48, 49, 50, 51, 52, 53, 54, 55, 56, 57, 58, 59, 60, 61, 62, 63, 64, 65, 66, 67, 68, 69, 70, 71, 72, 73, 74, 75, 76, 77, 78, 79, 80, 81, 82, 83, 84, 85, 86, 87, 88, 89, 90, 91, 92, 93, 94, 95, 96, 97, 98, 99, 100, 101]), (9, [0])], loopAt [], []⟩
theorem S.told14_k {R : Type}  (k : AVal → List Blk → Option R) : fnEval tis F40 0 G43 Try.f40 [] [] k =
  (k (.bool true) ([])) := by kernel_rfl
def S.told14  : Bool :=
  (true)
theorem S.told14_v {R : Type}  (k : AVal → List Blk → Option R) : fnEval tis F40 0 G43 Try.f40 [] [] k = k (.bool (S.told14)) [] :=
  (S.told14_k k).trans rfl
def H40 : Hnd := fun R args σ k => match args, σ with
  | [], [] => k (.bool (S.told14)) []
  | _, _ => none
theorem H40_ok : HndOk Try.prog 40 H40 := hnd_ok tis tisOk mixOk G43_ok F40 Try.func40 rfl (by
  intro R args σ k r h
  unfold H40 at h
  split at h
  · exact ⟨0, (S.told14_v _).trans h⟩
  · cases h)
def G40 : Env := Env.add 40 H40 G43
theorem G40_ok : EnvOk Try.prog G40 := envAdd_ok H40_ok G43_ok
end Go.Proofs.Ytfoaihjkmfhaoaa.AB
