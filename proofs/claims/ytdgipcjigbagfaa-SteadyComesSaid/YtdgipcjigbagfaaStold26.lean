/- What the program tells of a few. -/
import Derived.Test.YtdgipcjigbagfaaSrun
namespace Go.Proofs.Ytdgipcjigbagfaa.AB
set_option linter.unusedVariables false
noncomputable def Z_run : {f : ∀ (fu : Nat) (c : Cf) (load r m : Int), Option ((Unit) ⊕ (Nat × List (Int × Int × Int × Int × Bool × Int))) // f = fun (fu : Nat) (c : Cf) (load r m : Int) => S.run fu c load r m} := Classical.choice ⟨⟨_, rfl⟩⟩
noncomputable def S.q_run (fu : Nat) (c : Cf) (load r m : Int) : Option ((Unit) ⊕ (Nat × List (Int × Int × Int × Int × Bool × Int))) := Z_run.1 fu c load r m
theorem S.q_run_eq (fu : Nat) (c : Cf) (load r m : Int) : S.q_run fu c load r m = S.run fu c load r m := by unfold S.q_run; rw [Z_run.2]
theorem S.q_run_v {R : Type} (fu : Nat) (c : Cf) (load r m : Int) (k : AVal → List Blk → Option R) : fnEval tis F16 fu G15 Try.f16 [.agg (cfA c), .int .i64 load, .int .i64 r, .int .i64 m] [] k = oK (Sum.elim (fun v : Unit => k .nils []) (fun v : Nat × List (Int × Int × Int × Int × Bool × Int) => k (.slice 6 0 (0) v.1 none) [(.rows (Cd.pair (Cd.int .i64) (Cd.pair (Cd.int .i64) (Cd.pair (Cd.int .i64) (Cd.pair (Cd.int .i64) (Cd.pair Cd.bool (Cd.int .i64)))))) v.2 false)])) (S.q_run fu c load r m) :=
  (S.run_v fu c load r m k).trans (by rw [S.q_run_eq])
noncomputable def H16s : Hnd := fun R args σ k => match args, σ with
  | [.agg [.int .i64 target_, .int .i64 util_, .int .i64 stable_, .int .i64 panic_, .int .i64 grain_, .int .i64 threshold_, .int .i64 up_, .int .i64 down_, .int .i64 min_, .int .i64 max_, .int .i64 initial_, .int .i64 grace_, .int .i64 delay_, .int .i64 burst_, .int .i64 limit_, .int .i64 queue_, .int .i64 timeout_, .int .i64 ready_, .int .i64 subset_, .int .i64 sample_], .int .i64 load, .int .i64 r, .int .i64 m], [] => oK (Sum.elim (fun v : Unit => k .nils []) (fun v : Nat × List (Int × Int × Int × Int × Bool × Int) => k (.slice 6 0 (0) v.1 none) [(.rows (Cd.pair (Cd.int .i64) (Cd.pair (Cd.int .i64) (Cd.pair (Cd.int .i64) (Cd.pair (Cd.int .i64) (Cd.pair Cd.bool (Cd.int .i64)))))) v.2 false)])) (S.q_run 100000 ⟨target_, util_, stable_, panic_, grain_, threshold_, up_, down_, min_, max_, initial_, grace_, delay_, burst_, limit_, queue_, timeout_, ready_, subset_, sample_⟩ load r m)
  | _, _ => none
theorem H16s_ok : HndOk Try.prog 16 H16s := hnd_ok tis tisOk mixOk G15_ok F16 Try.func16 rfl (by
  intro R args σ k r h
  unfold H16s at h
  split at h
  · rename_i target_ util_ stable_ panic_ grain_ threshold_ up_ down_ min_ max_ initial_ grace_ delay_ burst_ limit_ queue_ timeout_ ready_ subset_ sample_ load r m; exact ⟨100000, (S.q_run_v 100000 ⟨target_, util_, stable_, panic_, grain_, threshold_, up_, down_, min_, max_, initial_, grace_, delay_, burst_, limit_, queue_, timeout_, ready_, subset_, sample_⟩ load r m _).trans h⟩
  · cases h)
noncomputable def G16s : Env := Env.add 16 H16s G16
theorem G16s_ok : EnvOk Try.prog G16s := envAdd_ok H16s_ok G16_ok

/-! spinnakerlaw26.told -/
def F12 : FCfg := ⟨keepAt [(0, []), (1, [1]), (2, [1, 2]), (3, [0])], loopAt [], []⟩
theorem S.told26_k {R : Type}  (k : AVal → List Blk → Option R) : fnEval tis F12 0 G16s Try.f12 [] [] k =
  ((optK (S.q_run 100000 (Cf.mk 10000 700 60 6 1 2000 10000 2000 0 0 1 30 0 20000 10 100 60 3 0 0) 70000 1 3) fun o2 =>
   (Sum.elim (fun o3 : Unit =>
    k (.bool false) ([])) (fun o3 : Nat × List (Int × Int × Int × Int × Bool × Int) =>
    bif decide (((o3.1 : Nat) : Int) = 3) then
   bif inB 0 o3.1 then
   (optK (o3.2[0]?) fun o6 =>
   bif decide (o6.2.2.2.1 = 10) then
   bif inB 0 o3.1 then
   (optK (o3.2[0]?) fun o9 =>
   bif o9.2.2.2.2.1 then
   (optK (S.q_run 100000 (Cf.mk 10000 700 60 6 1 2000 10000 2000 0 0 1 30 0 20000 10 100 60 3 0 0) 1 1 (-1)) fun o11 =>
   (Sum.elim (fun o12 : Unit =>
    (optK (S.q_run 100000 (Cf.mk 0 0 0 0 0 0 0 0 0 0 0 0 0 0 0 0 0 0 0 0) 1 1 5) fun o13 =>
   (Sum.elim (fun o14 : Unit =>
    k (.bool true) ([])) (fun o14 : Nat × List (Int × Int × Int × Int × Bool × Int) =>
    k (.bool (decide (((o14.1 : Nat) : Int) = 0))) ([])) (o13)))) (fun o12 : Nat × List (Int × Int × Int × Int × Bool × Int) =>
    bif decide (((o12.1 : Nat) : Int) = 0) then
   (optK (S.q_run 100000 (Cf.mk 0 0 0 0 0 0 0 0 0 0 0 0 0 0 0 0 0 0 0 0) 1 1 5) fun o14 =>
   (Sum.elim (fun o15 : Unit =>
    k (.bool true) ([])) (fun o15 : Nat × List (Int × Int × Int × Int × Bool × Int) =>
    k (.bool (decide (((o15.1 : Nat) : Int) = 0))) ([])) (o14)))
 else
   k (.bool false) ([])) (o11)))
 else
   k (.bool false) ([]))
 else
   none
 else
   k (.bool false) ([]))
 else
   none
 else
   k (.bool false) ([])) (o2)))) := by kernel_rfl
noncomputable def S.told26  : Option (Bool) :=
  (optK (S.q_run 100000 (Cf.mk 10000 700 60 6 1 2000 10000 2000 0 0 1 30 0 20000 10 100 60 3 0 0) 70000 1 3) fun o2 =>
   (Sum.elim (fun o3 : Unit =>
    some (false)) (fun o3 : Nat × List (Int × Int × Int × Int × Bool × Int) =>
    bif decide (((o3.1 : Nat) : Int) = 3) then
   bif inB 0 o3.1 then
   (optK (o3.2[0]?) fun o6 =>
   bif decide (o6.2.2.2.1 = 10) then
   bif inB 0 o3.1 then
   (optK (o3.2[0]?) fun o9 =>
   bif o9.2.2.2.2.1 then
   (optK (S.q_run 100000 (Cf.mk 10000 700 60 6 1 2000 10000 2000 0 0 1 30 0 20000 10 100 60 3 0 0) 1 1 (-1)) fun o11 =>
   (Sum.elim (fun o12 : Unit =>
    (optK (S.q_run 100000 (Cf.mk 0 0 0 0 0 0 0 0 0 0 0 0 0 0 0 0 0 0 0 0) 1 1 5) fun o13 =>
   (Sum.elim (fun o14 : Unit =>
    some (true)) (fun o14 : Nat × List (Int × Int × Int × Int × Bool × Int) =>
    some (decide (((o14.1 : Nat) : Int) = 0))) (o13)))) (fun o12 : Nat × List (Int × Int × Int × Int × Bool × Int) =>
    bif decide (((o12.1 : Nat) : Int) = 0) then
   (optK (S.q_run 100000 (Cf.mk 0 0 0 0 0 0 0 0 0 0 0 0 0 0 0 0 0 0 0 0) 1 1 5) fun o14 =>
   (Sum.elim (fun o15 : Unit =>
    some (true)) (fun o15 : Nat × List (Int × Int × Int × Int × Bool × Int) =>
    some (decide (((o15.1 : Nat) : Int) = 0))) (o14)))
 else
   some (false)) (o11)))
 else
   some (false))
 else
   none
 else
   some (false))
 else
   none
 else
   some (false)) (o2)))
noncomputable def S.told26_gk {R : Type}  (k : AVal → List Blk → Option R) : (Bool) → Option R := (fun v : Bool => k (.bool v) [])
theorem S.told26_v {R : Type}  (k : AVal → List Blk → Option R) : fnEval tis F12 0 G16s Try.f12 [] [] k = oK (fun v : Bool => k (.bool v) []) (S.told26) :=
  (S.told26_k k).trans (by
      unfold S.told26
      refine opt_lift fun o2 => ?_
      refine sumF_lift (f := (oK (S.told26_gk k))) (fun o3 => ?_) (fun o3 => ?_) _
      · 
        exact rfl
      · 
        refine bif_lift (f := (oK (S.told26_gk k))) ?_ ?_
        · 
          refine bif_lift (f := (oK (S.told26_gk k))) ?_ ?_
          · 
            refine opt_lift fun o6 => ?_
            refine bif_lift (f := (oK (S.told26_gk k))) ?_ ?_
            · 
              refine bif_lift (f := (oK (S.told26_gk k))) ?_ ?_
              · 
                refine opt_lift fun o9 => ?_
                refine bif_lift (f := (oK (S.told26_gk k))) ?_ ?_
                · 
                  refine opt_lift fun o11 => ?_
                  refine sumF_lift (f := (oK (S.told26_gk k))) (fun o12 => ?_) (fun o12 => ?_) _
                  · 
                    refine opt_lift fun o13 => ?_
                    refine sumF_lift (f := (oK (S.told26_gk k))) (fun o14 => ?_) (fun o14 => ?_) _
                    · 
                      exact rfl
                    · 
                      exact rfl
                  · 
                    refine bif_lift (f := (oK (S.told26_gk k))) ?_ ?_
                    · 
                      refine opt_lift fun o14 => ?_
                      refine sumF_lift (f := (oK (S.told26_gk k))) (fun o15 => ?_) (fun o15 => ?_) _
                      · 
                        exact rfl
                      · 
                        exact rfl
                    · 
                      exact rfl
                · 
                  exact rfl
              · 
                exact rfl
            · 
              exact rfl
          · 
            exact rfl
        · 
          exact rfl
      )
noncomputable def H12 : Hnd := fun R args σ k => match args, σ with
  | [], [] => oK (fun v : Bool => k (.bool v) []) (S.told26)
  | _, _ => none
theorem H12_ok : HndOk Try.prog 12 H12 := hnd_ok tis tisOk mixOk G16s_ok F12 Try.func12 rfl (by
  intro R args σ k r h
  unfold H12 at h
  split at h
  · exact ⟨0, (S.told26_v _).trans h⟩
  · cases h)
noncomputable def G12 : Env := Env.add 12 H12 G16s
theorem G12_ok : EnvOk Try.prog G12 := envAdd_ok H12_ok G16s_ok
noncomputable def Z_told26 : {f : Option (Bool) // f = S.told26} := Classical.choice ⟨⟨_, rfl⟩⟩
noncomputable def S.q_told26 : Option (Bool) := Z_told26.1
theorem S.q_told26_eq : S.q_told26 = S.told26 := Z_told26.2
theorem S.q_told26_v {R : Type}  (k : AVal → List Blk → Option R) : fnEval tis F12 0 G16s Try.f12 [] [] k = oK (fun v : Bool => k (.bool v) []) (S.q_told26) :=
  (S.told26_v  k).trans (by rw [S.q_told26_eq])
noncomputable def H12s : Hnd := fun R args σ k => match args, σ with
  | [], [] => oK (fun v : Bool => k (.bool v) []) (S.q_told26)
  | _, _ => none
theorem H12s_ok : HndOk Try.prog 12 H12s := hnd_ok tis tisOk mixOk G16s_ok F12 Try.func12 rfl (by
  intro R args σ k r h
  unfold H12s at h
  split at h
  · exact ⟨0, (S.q_told26_v _).trans h⟩
  · cases h)
noncomputable def G12s : Env := Env.add 12 H12s G12
theorem G12s_ok : EnvOk Try.prog G12s := envAdd_ok H12s_ok G12_ok
noncomputable def Z_aim : {f : ∀ (c : Cf) (load : Int), Option (Int) // f = fun (c : Cf) (load : Int) => S.aim c load} := Classical.choice ⟨⟨_, rfl⟩⟩
noncomputable def S.q_aim (c : Cf) (load : Int) : Option (Int) := Z_aim.1 c load
theorem S.q_aim_eq (c : Cf) (load : Int) : S.q_aim c load = S.aim c load := by unfold S.q_aim; rw [Z_aim.2]
theorem S.q_aim_v {R : Type} (c : Cf) (load : Int) (k : AVal → List Blk → Option R) : fnEval tis F17 0 G31 Try.f17 [.agg (cfA c), .int .i64 load] [] k = oK (fun v : Int => k (.int .i64 v) []) (S.q_aim c load) :=
  (S.aim_v c load k).trans (by rw [S.q_aim_eq])
noncomputable def H17s : Hnd := fun R args σ k => match args, σ with
  | [.agg [.int .i64 target_, .int .i64 util_, .int .i64 stable_, .int .i64 panic_, .int .i64 grain_, .int .i64 threshold_, .int .i64 up_, .int .i64 down_, .int .i64 min_, .int .i64 max_, .int .i64 initial_, .int .i64 grace_, .int .i64 delay_, .int .i64 burst_, .int .i64 limit_, .int .i64 queue_, .int .i64 timeout_, .int .i64 ready_, .int .i64 subset_, .int .i64 sample_], .int .i64 load], [] => oK (fun v : Int => k (.int .i64 v) []) (S.q_aim ⟨target_, util_, stable_, panic_, grain_, threshold_, up_, down_, min_, max_, initial_, grace_, delay_, burst_, limit_, queue_, timeout_, ready_, subset_, sample_⟩ load)
  | _, _ => none
theorem H17s_ok : HndOk Try.prog 17 H17s := hnd_ok tis tisOk mixOk G31_ok F17 Try.func17 rfl (by
  intro R args σ k r h
  unfold H17s at h
  split at h
  · rename_i target_ util_ stable_ panic_ grain_ threshold_ up_ down_ min_ max_ initial_ grace_ delay_ burst_ limit_ queue_ timeout_ ready_ subset_ sample_ load; exact ⟨0, (S.q_aim_v ⟨target_, util_, stable_, panic_, grain_, threshold_, up_, down_, min_, max_, initial_, grace_, delay_, burst_, limit_, queue_, timeout_, ready_, subset_, sample_⟩ load _).trans h⟩
  · cases h)
noncomputable def G17s : Env := Env.add 17 H17s G12s
theorem G17s_ok : EnvOk Try.prog G17s := envAdd_ok H17s_ok G12s_ok
end Go.Proofs.Ytdgipcjigbagfaa.AB
