/- The functions of layer 14, as plain functions. -/
import Derived.Test.YtfoaihjkmfhaoaaSrconf
namespace Go.Proofs.Ytfoaihjkmfhaoaa.AB
set_option linter.unusedVariables false

/-! alarm.panics -/
def F59 : FCfg := ⟨keepAt [(0, [0]), (1, [3, 4]), (2, [2])], loopAt [], []⟩
theorem S.panics_k {R : Type} (t m : Int) (k : AVal → List Blk → Option R) : fnEval tis F59 0 G43 Try.f59 [.iface 59 (.agg [.int .i64 t, .int .i64 m])] [] k =
  (k (.bool (decide (0 ≤ t))) ([])) := by kernel_rfl
def S.panics (t m : Int) : Bool :=
  (decide (0 ≤ t))
theorem S.panics_v {R : Type} (t m : Int) (k : AVal → List Blk → Option R) : fnEval tis F59 0 G43 Try.f59 [.iface 59 (.agg [.int .i64 t, .int .i64 m])] [] k = k (.bool (S.panics t m)) [] :=
  (S.panics_k t m k).trans rfl
def H59 : Hnd := fun R args σ k => match args, σ with
  | [.iface 59 (.agg [.int .i64 t, .int .i64 m])], [] => k (.bool (S.panics t m)) []
  | _, _ => none
theorem H59_ok : HndOk Try.prog 59 H59 := hnd_ok tis tisOk mixOk G43_ok F59 Try.func59 rfl (by
  intro R args σ k r h
  unfold H59 at h
  split at h
  · rename_i t m; exact ⟨0, (S.panics_v t m _).trans h⟩
  · cases h)
def G59 : Env := Env.add 59 H59 G43
theorem G59_ok : EnvOk Try.prog G59 := envAdd_ok H59_ok G43_ok

/-! alarm.Is -/
def F41 : FCfg := ⟨keepAt [(0, [1]), (1, [2])], loopAt [], []⟩
theorem S.is_k {R : Type} (t m : Int) (k : AVal → List Blk → Option R) : fnEval tis F41 0 G59 Try.f41 [.agg [.int .i64 t, .int .i64 m]] [] k =
  (k (.bool (S.panics t m)) ([])) := by kernel_rfl
def S.is (t m : Int) : Bool :=
  (S.panics t m)
theorem S.is_v {R : Type} (t m : Int) (k : AVal → List Blk → Option R) : fnEval tis F41 0 G59 Try.f41 [.agg [.int .i64 t, .int .i64 m]] [] k = k (.bool (S.is t m)) [] :=
  (S.is_k t m k).trans rfl
def H41 : Hnd := fun R args σ k => match args, σ with
  | [.agg [.int .i64 t, .int .i64 m]], [] => k (.bool (S.is t m)) []
  | _, _ => none
theorem H41_ok : HndOk Try.prog 41 H41 := hnd_ok tis tisOk mixOk G59_ok F41 Try.func41 rfl (by
  intro R args σ k r h
  unfold H41 at h
  split at h
  · rename_i t m; exact ⟨0, (S.is_v t m _).trans h⟩
  · cases h)
def G41 : Env := Env.add 41 H41 G59
theorem G41_ok : EnvOk Try.prog G41 := envAdd_ok H41_ok G59_ok

/-! alarm.Keep -/
def F38 : FCfg := ⟨keepAt [(0, [1, 2, 4]), (1, [1, 2, 4, 8]), (2, [4, 5]), (3, [2, 4]), (4, [4, 5])], loopAt [], []⟩
theorem S.keep_k {R : Type} (t m w : Int) (k : AVal → List Blk → Option R) : fnEval tis F38 0 G41 Try.f38 [.agg [.int .i64 t, .int .i64 m], .int .i64 w] [] k =
  (bif !S.is t m then
    k (.tuple [.agg [.int .i64 t, .int .i64 m], .int .i64 w]) ([])
  else
    k (.tuple [.agg [.int .i64 t, .int .i64 (if w > m then w else m)], .int .i64 (if w > m then w else m)]) ([])) := by kernel_rfl
def S.keep (t m w : Int) : Int × Int × Int :=
  bif !S.is t m then
    (t, m, w)
  else
    (t, if w > m then w else m, if w > m then w else m)
theorem S.keep_v {R : Type} (t m w : Int) (k : AVal → List Blk → Option R) : fnEval tis F38 0 G41 Try.f38 [.agg [.int .i64 t, .int .i64 m], .int .i64 w] [] k = k (.tuple [(.agg [(.int .i64 (S.keep t m w).1), (.int .i64 (S.keep t m w).2.1)]), (.int .i64 (S.keep t m w).2.2)]) [] :=
  (S.keep_k t m w k).trans (bif_lift (f := (fun v : Int × Int × Int => k (.tuple [(.agg [(.int .i64 v.1), (.int .i64 v.2.1)]), (.int .i64 v.2.2)]) [])) rfl rfl)
def H38 : Hnd := fun R args σ k => match args, σ with
  | [.agg [.int .i64 t, .int .i64 m], .int .i64 w], [] => k (.tuple [(.agg [(.int .i64 (S.keep t m w).1), (.int .i64 (S.keep t m w).2.1)]), (.int .i64 (S.keep t m w).2.2)]) []
  | _, _ => none
theorem H38_ok : HndOk Try.prog 38 H38 := hnd_ok tis tisOk mixOk G41_ok F38 Try.func38 rfl (by
  intro R args σ k r h
  unfold H38 at h
  split at h
  · rename_i t m w; exact ⟨0, (S.keep_v t m w _).trans h⟩
  · cases h)
def G38 : Env := Env.add 38 H38 G41
theorem G38_ok : EnvOk Try.prog G38 := envAdd_ok H38_ok G41_ok

/-! alarm.Calm -/
def F44 : FCfg := ⟨keepAt [(0, [0]), (1, [0])], loopAt [], []⟩
theorem S.calm_k {R : Type}  (k : AVal → List Blk → Option R) : fnEval tis F44 0 G38 Try.f44 [] [] k =
  (k (.agg [.int .i64 (-1), .int .i64 0]) ([])) := by kernel_rfl
def S.calm  : Int × Int :=
  (-1, 0)
theorem S.calm_v {R : Type}  (k : AVal → List Blk → Option R) : fnEval tis F44 0 G38 Try.f44 [] [] k = k (.agg [(.int .i64 (S.calm).1), (.int .i64 (S.calm).2)]) [] :=
  (S.calm_k k).trans rfl
def H44 : Hnd := fun R args σ k => match args, σ with
  | [], [] => k (.agg [(.int .i64 (S.calm).1), (.int .i64 (S.calm).2)]) []
  | _, _ => none
theorem H44_ok : HndOk Try.prog 44 H44 := hnd_ok tis tisOk mixOk G38_ok F44 Try.func44 rfl (by
  intro R args σ k r h
  unfold H44 at h
  split at h
  · exact ⟨0, (S.calm_v _).trans h⟩
  · cases h)
def G44 : Env := Env.add 44 H44 G38
theorem G44_ok : EnvOk Try.prog G44 := envAdd_ok H44_ok G38_ok

/-! alarm.Next -/
def F36 : FCfg := ⟨keepAt [(0, [2, 3, 4, 5, 8]), (1, [2, 3, 4, 5, 8, 9]), (2, [8]), (3, [2, 3, 4, 5, 8, 22]), (4, [5, 8]), (5, [8]), (6, [2, 4, 5, 8, 31]), (7, [8]), (8, [5, 8, 35]), (9, [8]), (10, [8])], loopAt [], []⟩
theorem S.next_k {R : Type} (c : Cf) (t m now : Int) (over : Bool) (k : AVal → List Blk → Option R) : fnEval tis F36 0 G44 Try.f36 [.agg (cfA c), .agg [.int .i64 t, .int .i64 m], .int .i64 now, .bool over] [] k =
  (bif !S.may (Cf.mk (Cf.target c) (Cf.util c) (Cf.stable c) (Cf.panic c) (Cf.grain c) (Cf.threshold c) (Cf.up c) (Cf.down c) (Cf.min c) (Cf.max c) (Cf.initial c) (Cf.grace c) (Cf.delay c) (Cf.burst c) (Cf.limit c) (Cf.queue c) (Cf.timeout c) (Cf.ready c) (Cf.subset c) (Cf.sample c)) then
    k (.agg [.int .i64 t, .int .i64 m]) ([])
  else
    bif decide (now < 0) then
      k (.agg [.int .i64 t, .int .i64 m]) ([])
    else
      bif decide (1099511627776 < now) then
        k (.agg [.int .i64 t, .int .i64 m]) ([])
      else
        bif over then
          bif S.is t m then
            k (.agg [.int .i64 now, .int .i64 m]) ([])
          else
            bif over then
              k (.agg [.int .i64 now, .int .i64 0]) ([])
            else
              bif S.is t m then
                bif decide (Cf.stable c ≤ Go.IntKind.wrap .i64 (now - t)) then
                  k (.agg [.int .i64 (-1), .int .i64 0]) ([])
                else
                  k (.agg [.int .i64 t, .int .i64 m]) ([])
              else
                k (.agg [.int .i64 t, .int .i64 m]) ([])
        else
          bif over then
            k (.agg [.int .i64 now, .int .i64 0]) ([])
          else
            bif S.is t m then
              bif decide (Cf.stable c ≤ Go.IntKind.wrap .i64 (now - t)) then
                k (.agg [.int .i64 (-1), .int .i64 0]) ([])
              else
                k (.agg [.int .i64 t, .int .i64 m]) ([])
            else
              k (.agg [.int .i64 t, .int .i64 m]) ([])) := by kernel_rfl
def S.next (c : Cf) (t m now : Int) (over : Bool) : Int × Int :=
  bif !S.may (Cf.mk (Cf.target c) (Cf.util c) (Cf.stable c) (Cf.panic c) (Cf.grain c) (Cf.threshold c) (Cf.up c) (Cf.down c) (Cf.min c) (Cf.max c) (Cf.initial c) (Cf.grace c) (Cf.delay c) (Cf.burst c) (Cf.limit c) (Cf.queue c) (Cf.timeout c) (Cf.ready c) (Cf.subset c) (Cf.sample c)) then
    (t, m)
  else
    bif decide (now < 0) then
      (t, m)
    else
      bif decide (1099511627776 < now) then
        (t, m)
      else
        bif over then
          bif S.is t m then
            (now, m)
          else
            bif over then
              (now, 0)
            else
              bif S.is t m then
                bif decide (Cf.stable c ≤ Go.IntKind.wrap .i64 (now - t)) then
                  (-1, 0)
                else
                  (t, m)
              else
                (t, m)
        else
          bif over then
            (now, 0)
          else
            bif S.is t m then
              bif decide (Cf.stable c ≤ Go.IntKind.wrap .i64 (now - t)) then
                (-1, 0)
              else
                (t, m)
            else
              (t, m)
theorem S.next_v {R : Type} (c : Cf) (t m now : Int) (over : Bool) (k : AVal → List Blk → Option R) : fnEval tis F36 0 G44 Try.f36 [.agg (cfA c), .agg [.int .i64 t, .int .i64 m], .int .i64 now, .bool over] [] k = k (.agg [(.int .i64 (S.next c t m now over).1), (.int .i64 (S.next c t m now over).2)]) [] :=
  (S.next_k c t m now over k).trans (bif_lift (f := (fun v : Int × Int => k (.agg [(.int .i64 v.1), (.int .i64 v.2)]) [])) rfl (bif_lift (f := (fun v : Int × Int => k (.agg [(.int .i64 v.1), (.int .i64 v.2)]) [])) rfl (bif_lift (f := (fun v : Int × Int => k (.agg [(.int .i64 v.1), (.int .i64 v.2)]) [])) rfl (bif_lift (f := (fun v : Int × Int => k (.agg [(.int .i64 v.1), (.int .i64 v.2)]) [])) (bif_lift (f := (fun v : Int × Int => k (.agg [(.int .i64 v.1), (.int .i64 v.2)]) [])) rfl (bif_lift (f := (fun v : Int × Int => k (.agg [(.int .i64 v.1), (.int .i64 v.2)]) [])) rfl (bif_lift (f := (fun v : Int × Int => k (.agg [(.int .i64 v.1), (.int .i64 v.2)]) [])) (bif_lift (f := (fun v : Int × Int => k (.agg [(.int .i64 v.1), (.int .i64 v.2)]) [])) rfl rfl) rfl))) (bif_lift (f := (fun v : Int × Int => k (.agg [(.int .i64 v.1), (.int .i64 v.2)]) [])) rfl (bif_lift (f := (fun v : Int × Int => k (.agg [(.int .i64 v.1), (.int .i64 v.2)]) [])) (bif_lift (f := (fun v : Int × Int => k (.agg [(.int .i64 v.1), (.int .i64 v.2)]) [])) rfl rfl) rfl))))))
def H36 : Hnd := fun R args σ k => match args, σ with
  | [.agg [.int .i64 target_, .int .i64 util_, .int .i64 stable_, .int .i64 panic_, .int .i64 grain_, .int .i64 threshold_, .int .i64 up_, .int .i64 down_, .int .i64 min_, .int .i64 max_, .int .i64 initial_, .int .i64 grace_, .int .i64 delay_, .int .i64 burst_, .int .i64 limit_, .int .i64 queue_, .int .i64 timeout_, .int .i64 ready_, .int .i64 subset_, .int .i64 sample_], .agg [.int .i64 t, .int .i64 m], .int .i64 now, .bool over], [] => k (.agg [(.int .i64 (S.next ⟨target_, util_, stable_, panic_, grain_, threshold_, up_, down_, min_, max_, initial_, grace_, delay_, burst_, limit_, queue_, timeout_, ready_, subset_, sample_⟩ t m now over).1), (.int .i64 (S.next ⟨target_, util_, stable_, panic_, grain_, threshold_, up_, down_, min_, max_, initial_, grace_, delay_, burst_, limit_, queue_, timeout_, ready_, subset_, sample_⟩ t m now over).2)]) []
  | _, _ => none
theorem H36_ok : HndOk Try.prog 36 H36 := hnd_ok tis tisOk mixOk G44_ok F36 Try.func36 rfl (by
  intro R args σ k r h
  unfold H36 at h
  split at h
  · rename_i target_ util_ stable_ panic_ grain_ threshold_ up_ down_ min_ max_ initial_ grace_ delay_ burst_ limit_ queue_ timeout_ ready_ subset_ sample_ t m now over; exact ⟨0, (S.next_v ⟨target_, util_, stable_, panic_, grain_, threshold_, up_, down_, min_, max_, initial_, grace_, delay_, burst_, limit_, queue_, timeout_, ready_, subset_, sample_⟩ t m now over _).trans h⟩
  · cases h)
def G36 : Env := Env.add 36 H36 G44
theorem G36_ok : EnvOk Try.prog G36 := envAdd_ok H36_ok G44_ok

/-! (spinnakerref12.Mode).Is -/
def F42 : FCfg := ⟨keepAt [(0, [1]), (1, [2])], loopAt [], []⟩
theorem S.ris_k {R : Type} (t m : Int) (k : AVal → List Blk → Option R) : fnEval tis F42 0 G36 Try.f42 [.agg [.int .i64 t, .int .i64 m]] [] k =
  (k (.bool (decide (0 ≤ t))) ([])) := by kernel_rfl
def S.ris (t m : Int) : Bool :=
  (decide (0 ≤ t))
theorem S.ris_v {R : Type} (t m : Int) (k : AVal → List Blk → Option R) : fnEval tis F42 0 G36 Try.f42 [.agg [.int .i64 t, .int .i64 m]] [] k = k (.bool (S.ris t m)) [] :=
  (S.ris_k t m k).trans rfl
def H42 : Hnd := fun R args σ k => match args, σ with
  | [.agg [.int .i64 t, .int .i64 m]], [] => k (.bool (S.ris t m)) []
  | _, _ => none
theorem H42_ok : HndOk Try.prog 42 H42 := hnd_ok tis tisOk mixOk G36_ok F42 Try.func42 rfl (by
  intro R args σ k r h
  unfold H42 at h
  split at h
  · rename_i t m; exact ⟨0, (S.ris_v t m _).trans h⟩
  · cases h)
def G42 : Env := Env.add 42 H42 G36
theorem G42_ok : EnvOk Try.prog G42 := envAdd_ok H42_ok G36_ok

/-! (spinnakerref12.Mode).Next -/
def F37 : FCfg := ⟨keepAt [(0, [2, 3, 4, 5, 8]), (1, [2, 3, 4, 5, 8, 9]), (2, [8]), (3, [2, 3, 4, 5, 8, 22]), (4, [8]), (5, [2, 4, 5, 8, 32]), (6, [8]), (7, [4, 8, 36]), (8, [8]), (9, [8])], loopAt [], []⟩
theorem S.rnext_k {R : Type} (c : Cf) (t m now : Int) (over : Bool) (k : AVal → List Blk → Option R) : fnEval tis F37 0 G42 Try.f37 [.agg [.int .i64 t, .int .i64 m], .agg (cfA c), .int .i64 now, .bool over] [] k =
  (bif !S.rmay (Cf.mk (Cf.target c) (Cf.util c) (Cf.stable c) (Cf.panic c) (Cf.grain c) (Cf.threshold c) (Cf.up c) (Cf.down c) (Cf.min c) (Cf.max c) (Cf.initial c) (Cf.grace c) (Cf.delay c) (Cf.burst c) (Cf.limit c) (Cf.queue c) (Cf.timeout c) (Cf.ready c) (Cf.subset c) (Cf.sample c)) then
    k (.agg [.int .i64 t, .int .i64 m]) ([])
  else
    bif decide (now < 0) then
      k (.agg [.int .i64 t, .int .i64 m]) ([])
    else
      bif decide (1099511627776 < now) then
        k (.agg [.int .i64 t, .int .i64 m]) ([])
      else
        bif over then
          bif S.ris t m then
            k (.agg [.int .i64 now, .int .i64 m]) ([])
          else
            bif over then
              k (.agg [.int .i64 now, .int .i64 0]) ([])
            else
              bif S.ris t m then
                bif decide (t ≤ Go.IntKind.wrap .i64 (now - Cf.stable c)) then
                  k (.agg [.int .i64 (-1), .int .i64 0]) ([])
                else
                  k (.agg [.int .i64 t, .int .i64 m]) ([])
              else
                k (.agg [.int .i64 t, .int .i64 m]) ([])
        else
          bif over then
            k (.agg [.int .i64 now, .int .i64 0]) ([])
          else
            bif S.ris t m then
              bif decide (t ≤ Go.IntKind.wrap .i64 (now - Cf.stable c)) then
                k (.agg [.int .i64 (-1), .int .i64 0]) ([])
              else
                k (.agg [.int .i64 t, .int .i64 m]) ([])
            else
              k (.agg [.int .i64 t, .int .i64 m]) ([])) := by kernel_rfl
def S.rnext (c : Cf) (t m now : Int) (over : Bool) : Int × Int :=
  bif !S.rmay (Cf.mk (Cf.target c) (Cf.util c) (Cf.stable c) (Cf.panic c) (Cf.grain c) (Cf.threshold c) (Cf.up c) (Cf.down c) (Cf.min c) (Cf.max c) (Cf.initial c) (Cf.grace c) (Cf.delay c) (Cf.burst c) (Cf.limit c) (Cf.queue c) (Cf.timeout c) (Cf.ready c) (Cf.subset c) (Cf.sample c)) then
    (t, m)
  else
    bif decide (now < 0) then
      (t, m)
    else
      bif decide (1099511627776 < now) then
        (t, m)
      else
        bif over then
          bif S.ris t m then
            (now, m)
          else
            bif over then
              (now, 0)
            else
              bif S.ris t m then
                bif decide (t ≤ Go.IntKind.wrap .i64 (now - Cf.stable c)) then
                  (-1, 0)
                else
                  (t, m)
              else
                (t, m)
        else
          bif over then
            (now, 0)
          else
            bif S.ris t m then
              bif decide (t ≤ Go.IntKind.wrap .i64 (now - Cf.stable c)) then
                (-1, 0)
              else
                (t, m)
            else
              (t, m)
theorem S.rnext_v {R : Type} (c : Cf) (t m now : Int) (over : Bool) (k : AVal → List Blk → Option R) : fnEval tis F37 0 G42 Try.f37 [.agg [.int .i64 t, .int .i64 m], .agg (cfA c), .int .i64 now, .bool over] [] k = k (.agg [(.int .i64 (S.rnext c t m now over).1), (.int .i64 (S.rnext c t m now over).2)]) [] :=
  (S.rnext_k c t m now over k).trans (bif_lift (f := (fun v : Int × Int => k (.agg [(.int .i64 v.1), (.int .i64 v.2)]) [])) rfl (bif_lift (f := (fun v : Int × Int => k (.agg [(.int .i64 v.1), (.int .i64 v.2)]) [])) rfl (bif_lift (f := (fun v : Int × Int => k (.agg [(.int .i64 v.1), (.int .i64 v.2)]) [])) rfl (bif_lift (f := (fun v : Int × Int => k (.agg [(.int .i64 v.1), (.int .i64 v.2)]) [])) (bif_lift (f := (fun v : Int × Int => k (.agg [(.int .i64 v.1), (.int .i64 v.2)]) [])) rfl (bif_lift (f := (fun v : Int × Int => k (.agg [(.int .i64 v.1), (.int .i64 v.2)]) [])) rfl (bif_lift (f := (fun v : Int × Int => k (.agg [(.int .i64 v.1), (.int .i64 v.2)]) [])) (bif_lift (f := (fun v : Int × Int => k (.agg [(.int .i64 v.1), (.int .i64 v.2)]) [])) rfl rfl) rfl))) (bif_lift (f := (fun v : Int × Int => k (.agg [(.int .i64 v.1), (.int .i64 v.2)]) [])) rfl (bif_lift (f := (fun v : Int × Int => k (.agg [(.int .i64 v.1), (.int .i64 v.2)]) [])) (bif_lift (f := (fun v : Int × Int => k (.agg [(.int .i64 v.1), (.int .i64 v.2)]) [])) rfl rfl) rfl))))))
def H37 : Hnd := fun R args σ k => match args, σ with
  | [.agg [.int .i64 t, .int .i64 m], .agg [.int .i64 target_, .int .i64 util_, .int .i64 stable_, .int .i64 panic_, .int .i64 grain_, .int .i64 threshold_, .int .i64 up_, .int .i64 down_, .int .i64 min_, .int .i64 max_, .int .i64 initial_, .int .i64 grace_, .int .i64 delay_, .int .i64 burst_, .int .i64 limit_, .int .i64 queue_, .int .i64 timeout_, .int .i64 ready_, .int .i64 subset_, .int .i64 sample_], .int .i64 now, .bool over], [] => k (.agg [(.int .i64 (S.rnext ⟨target_, util_, stable_, panic_, grain_, threshold_, up_, down_, min_, max_, initial_, grace_, delay_, burst_, limit_, queue_, timeout_, ready_, subset_, sample_⟩ t m now over).1), (.int .i64 (S.rnext ⟨target_, util_, stable_, panic_, grain_, threshold_, up_, down_, min_, max_, initial_, grace_, delay_, burst_, limit_, queue_, timeout_, ready_, subset_, sample_⟩ t m now over).2)]) []
  | _, _ => none
theorem H37_ok : HndOk Try.prog 37 H37 := hnd_ok tis tisOk mixOk G42_ok F37 Try.func37 rfl (by
  intro R args σ k r h
  unfold H37 at h
  split at h
  · rename_i t m target_ util_ stable_ panic_ grain_ threshold_ up_ down_ min_ max_ initial_ grace_ delay_ burst_ limit_ queue_ timeout_ ready_ subset_ sample_ now over; exact ⟨0, (S.rnext_v ⟨target_, util_, stable_, panic_, grain_, threshold_, up_, down_, min_, max_, initial_, grace_, delay_, burst_, limit_, queue_, timeout_, ready_, subset_, sample_⟩ t m now over _).trans h⟩
  · cases h)
def G37 : Env := Env.add 37 H37 G42
theorem G37_ok : EnvOk Try.prog G37 := envAdd_ok H37_ok G42_ok

/-! (spinnakerref12.Mode).Keep -/
def F39 : FCfg := ⟨keepAt [(0, [1, 2, 4]), (1, [1, 2, 4, 8]), (2, [4, 5]), (3, [2, 4]), (4, [4, 5])], loopAt [], []⟩
theorem S.rkeep_k {R : Type} (t m w : Int) (k : AVal → List Blk → Option R) : fnEval tis F39 0 G37 Try.f39 [.agg [.int .i64 t, .int .i64 m], .int .i64 w] [] k =
  (bif !S.ris t m then
    k (.tuple [.agg [.int .i64 t, .int .i64 m], .int .i64 w]) ([])
  else
    k (.tuple [.agg [.int .i64 t, .int .i64 (if w > m then w else m)], .int .i64 (if w > m then w else m)]) ([])) := by kernel_rfl
def S.rkeep (t m w : Int) : Int × Int × Int :=
  bif !S.ris t m then
    (t, m, w)
  else
    (t, if w > m then w else m, if w > m then w else m)
theorem S.rkeep_v {R : Type} (t m w : Int) (k : AVal → List Blk → Option R) : fnEval tis F39 0 G37 Try.f39 [.agg [.int .i64 t, .int .i64 m], .int .i64 w] [] k = k (.tuple [(.agg [(.int .i64 (S.rkeep t m w).1), (.int .i64 (S.rkeep t m w).2.1)]), (.int .i64 (S.rkeep t m w).2.2)]) [] :=
  (S.rkeep_k t m w k).trans (bif_lift (f := (fun v : Int × Int × Int => k (.tuple [(.agg [(.int .i64 v.1), (.int .i64 v.2.1)]), (.int .i64 v.2.2)]) [])) rfl rfl)
def H39 : Hnd := fun R args σ k => match args, σ with
  | [.agg [.int .i64 t, .int .i64 m], .int .i64 w], [] => k (.tuple [(.agg [(.int .i64 (S.rkeep t m w).1), (.int .i64 (S.rkeep t m w).2.1)]), (.int .i64 (S.rkeep t m w).2.2)]) []
  | _, _ => none
theorem H39_ok : HndOk Try.prog 39 H39 := hnd_ok tis tisOk mixOk G37_ok F39 Try.func39 rfl (by
  intro R args σ k r h
  unfold H39 at h
  split at h
  · rename_i t m w; exact ⟨0, (S.rkeep_v t m w _).trans h⟩
  · cases h)
def G39 : Env := Env.add 39 H39 G37
theorem G39_ok : EnvOk Try.prog G39 := envAdd_ok H39_ok G37_ok

/-! spinnakerlaw14.told -/
def F40 : FCfg := ⟨keepAt [(0, []), (1, [1]), (2, [1, 2]), (3, [1, 2, 3]), (4, [1, 2, 3, 4, 5]), (5, [1, 2, 3, 4, 5, 6, 7]), (6, [1, 2, 3, 4, 5, 6, 7, 8]), (7, [1, 2, 3, 4, 5, 6, 7, 8, 9]), (8, [1, 2, 3, 4, 5, 6, 7, 8, 9, 10, 11]), (9, [0])], loopAt [], []⟩
theorem S.told14_k {R : Type}  (k : AVal → List Blk → Option R) : fnEval tis F40 0 G39 Try.f40 [] [] k =
  (k (.bool true) ([])) := by kernel_rfl
def S.told14  : Bool :=
  (true)
theorem S.told14_v {R : Type}  (k : AVal → List Blk → Option R) : fnEval tis F40 0 G39 Try.f40 [] [] k = k (.bool (S.told14)) [] :=
  (S.told14_k k).trans rfl
def H40 : Hnd := fun R args σ k => match args, σ with
  | [], [] => k (.bool (S.told14)) []
  | _, _ => none
theorem H40_ok : HndOk Try.prog 40 H40 := hnd_ok tis tisOk mixOk G39_ok F40 Try.func40 rfl (by
  intro R args σ k r h
  unfold H40 at h
  split at h
  · exact ⟨0, (S.told14_v _).trans h⟩
  · cases h)
def G40 : Env := Env.add 40 H40 G39
theorem G40_ok : EnvOk Try.prog G40 := envAdd_ok H40_ok G39_ok

/-! spinnakerlaw14.AlarmAsks -/
def F11 : FCfg := ⟨keepAt [(0, [2, 3, 4, 5, 6]), (1, [2, 3, 4, 5, 6, 11]), (2, [4, 6, 11, 12, 13]), (3, [4, 6, 11, 12, 13, 14, 15]), (4, [6, 11, 12, 13, 14, 15, 16, 17]), (5, [10])], loopAt [], []⟩
theorem S.AlarmAsks_k {R : Type} (c : Cf) (t m now : Int) (over : Bool) (w : Int) (k : AVal → List Blk → Option R) : fnEval tis F11 0 G40 Try.f11 [.agg (cfA c), .agg [.int .i64 t, .int .i64 m], .int .i64 now, .bool over, .int .i64 w] [] k =
  (bif decide (Prod.fst (S.next (Cf.mk (Cf.target c) (Cf.util c) (Cf.stable c) (Cf.panic c) (Cf.grain c) (Cf.threshold c) (Cf.up c) (Cf.down c) (Cf.min c) (Cf.max c) (Cf.initial c) (Cf.grace c) (Cf.delay c) (Cf.burst c) (Cf.limit c) (Cf.queue c) (Cf.timeout c) (Cf.ready c) (Cf.subset c) (Cf.sample c)) t m now over) = Prod.fst (S.rnext (Cf.mk (Cf.target c) (Cf.util c) (Cf.stable c) (Cf.panic c) (Cf.grain c) (Cf.threshold c) (Cf.up c) (Cf.down c) (Cf.min c) (Cf.max c) (Cf.initial c) (Cf.grace c) (Cf.delay c) (Cf.burst c) (Cf.limit c) (Cf.queue c) (Cf.timeout c) (Cf.ready c) (Cf.subset c) (Cf.sample c)) t m now over)) then
    bif decide (Prod.snd (S.next (Cf.mk (Cf.target c) (Cf.util c) (Cf.stable c) (Cf.panic c) (Cf.grain c) (Cf.threshold c) (Cf.up c) (Cf.down c) (Cf.min c) (Cf.max c) (Cf.initial c) (Cf.grace c) (Cf.delay c) (Cf.burst c) (Cf.limit c) (Cf.queue c) (Cf.timeout c) (Cf.ready c) (Cf.subset c) (Cf.sample c)) t m now over) = Prod.snd (S.rnext (Cf.mk (Cf.target c) (Cf.util c) (Cf.stable c) (Cf.panic c) (Cf.grain c) (Cf.threshold c) (Cf.up c) (Cf.down c) (Cf.min c) (Cf.max c) (Cf.initial c) (Cf.grace c) (Cf.delay c) (Cf.burst c) (Cf.limit c) (Cf.queue c) (Cf.timeout c) (Cf.ready c) (Cf.subset c) (Cf.sample c)) t m now over)) then
      bif S.is t m == S.ris t m then
        bif decide (Prod.fst (S.keep t m w) = Prod.fst (S.rkeep t m w)) then
          bif decide (Prod.fst (Prod.snd (S.keep t m w)) = Prod.fst (Prod.snd (S.rkeep t m w))) then
            k (.bool (decide (Prod.snd (Prod.snd (S.keep t m w)) = Prod.snd (Prod.snd (S.rkeep t m w))))) ([])
          else
            k (.bool false) ([])
        else
          k (.bool false) ([])
      else
        k (.bool false) ([])
    else
      k (.bool false) ([])
  else
    k (.bool false) ([])) := by kernel_rfl
def S.AlarmAsks (c : Cf) (t m now : Int) (over : Bool) (w : Int) : Bool :=
  bif decide (Prod.fst (S.next (Cf.mk (Cf.target c) (Cf.util c) (Cf.stable c) (Cf.panic c) (Cf.grain c) (Cf.threshold c) (Cf.up c) (Cf.down c) (Cf.min c) (Cf.max c) (Cf.initial c) (Cf.grace c) (Cf.delay c) (Cf.burst c) (Cf.limit c) (Cf.queue c) (Cf.timeout c) (Cf.ready c) (Cf.subset c) (Cf.sample c)) t m now over) = Prod.fst (S.rnext (Cf.mk (Cf.target c) (Cf.util c) (Cf.stable c) (Cf.panic c) (Cf.grain c) (Cf.threshold c) (Cf.up c) (Cf.down c) (Cf.min c) (Cf.max c) (Cf.initial c) (Cf.grace c) (Cf.delay c) (Cf.burst c) (Cf.limit c) (Cf.queue c) (Cf.timeout c) (Cf.ready c) (Cf.subset c) (Cf.sample c)) t m now over)) then
    bif decide (Prod.snd (S.next (Cf.mk (Cf.target c) (Cf.util c) (Cf.stable c) (Cf.panic c) (Cf.grain c) (Cf.threshold c) (Cf.up c) (Cf.down c) (Cf.min c) (Cf.max c) (Cf.initial c) (Cf.grace c) (Cf.delay c) (Cf.burst c) (Cf.limit c) (Cf.queue c) (Cf.timeout c) (Cf.ready c) (Cf.subset c) (Cf.sample c)) t m now over) = Prod.snd (S.rnext (Cf.mk (Cf.target c) (Cf.util c) (Cf.stable c) (Cf.panic c) (Cf.grain c) (Cf.threshold c) (Cf.up c) (Cf.down c) (Cf.min c) (Cf.max c) (Cf.initial c) (Cf.grace c) (Cf.delay c) (Cf.burst c) (Cf.limit c) (Cf.queue c) (Cf.timeout c) (Cf.ready c) (Cf.subset c) (Cf.sample c)) t m now over)) then
      bif S.is t m == S.ris t m then
        bif decide (Prod.fst (S.keep t m w) = Prod.fst (S.rkeep t m w)) then
          bif decide (Prod.fst (Prod.snd (S.keep t m w)) = Prod.fst (Prod.snd (S.rkeep t m w))) then
            (decide (Prod.snd (Prod.snd (S.keep t m w)) = Prod.snd (Prod.snd (S.rkeep t m w))))
          else
            (false)
        else
          (false)
      else
        (false)
    else
      (false)
  else
    (false)
theorem S.AlarmAsks_v {R : Type} (c : Cf) (t m now : Int) (over : Bool) (w : Int) (k : AVal → List Blk → Option R) : fnEval tis F11 0 G40 Try.f11 [.agg (cfA c), .agg [.int .i64 t, .int .i64 m], .int .i64 now, .bool over, .int .i64 w] [] k = k (.bool (S.AlarmAsks c t m now over w)) [] :=
  (S.AlarmAsks_k c t m now over w k).trans (bif_lift (f := (fun v : Bool => k (.bool v) [])) (bif_lift (f := (fun v : Bool => k (.bool v) [])) (bif_lift (f := (fun v : Bool => k (.bool v) [])) (bif_lift (f := (fun v : Bool => k (.bool v) [])) (bif_lift (f := (fun v : Bool => k (.bool v) [])) rfl rfl) rfl) rfl) rfl) rfl)
def H11 : Hnd := fun R args σ k => match args, σ with
  | [.agg [.int .i64 target_, .int .i64 util_, .int .i64 stable_, .int .i64 panic_, .int .i64 grain_, .int .i64 threshold_, .int .i64 up_, .int .i64 down_, .int .i64 min_, .int .i64 max_, .int .i64 initial_, .int .i64 grace_, .int .i64 delay_, .int .i64 burst_, .int .i64 limit_, .int .i64 queue_, .int .i64 timeout_, .int .i64 ready_, .int .i64 subset_, .int .i64 sample_], .agg [.int .i64 t, .int .i64 m], .int .i64 now, .bool over, .int .i64 w], [] => k (.bool (S.AlarmAsks ⟨target_, util_, stable_, panic_, grain_, threshold_, up_, down_, min_, max_, initial_, grace_, delay_, burst_, limit_, queue_, timeout_, ready_, subset_, sample_⟩ t m now over w)) []
  | _, _ => none
theorem H11_ok : HndOk Try.prog 11 H11 := hnd_ok tis tisOk mixOk G40_ok F11 Try.func11 rfl (by
  intro R args σ k r h
  unfold H11 at h
  split at h
  · rename_i target_ util_ stable_ panic_ grain_ threshold_ up_ down_ min_ max_ initial_ grace_ delay_ burst_ limit_ queue_ timeout_ ready_ subset_ sample_ t m now over w; exact ⟨0, (S.AlarmAsks_v ⟨target_, util_, stable_, panic_, grain_, threshold_, up_, down_, min_, max_, initial_, grace_, delay_, burst_, limit_, queue_, timeout_, ready_, subset_, sample_⟩ t m now over w _).trans h⟩
  · cases h)
def G11 : Env := Env.add 11 H11 G40
theorem G11_ok : EnvOk Try.prog G11 := envAdd_ok H11_ok G40_ok
end Go.Proofs.Ytfoaihjkmfhaoaa.AB
