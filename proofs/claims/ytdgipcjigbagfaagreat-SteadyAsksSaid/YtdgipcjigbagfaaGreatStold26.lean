/- What the program tells of a few. -/
import Derived.Test.YtdgipcjigbagfaaGreatSrsteady
namespace Go.Proofs.YtdgipcjigbagfaaGreat.AB
set_option linter.unusedVariables false
noncomputable def Z_run : {f : ∀ (fu : Nat) (c : Cf) (load r m : Int), Option ((Unit) ⊕ (Nat × List (Int × Int × Int × Int × Bool × Int))) // f = fun (fu : Nat) (c : Cf) (load r m : Int) => S.run fu c load r m} := Classical.choice ⟨⟨_, rfl⟩⟩
noncomputable def S.q_run (fu : Nat) (c : Cf) (load r m : Int) : Option ((Unit) ⊕ (Nat × List (Int × Int × Int × Int × Bool × Int))) := Z_run.1 fu c load r m
theorem S.q_run_eq (fu : Nat) (c : Cf) (load r m : Int) : S.q_run fu c load r m = S.run fu c load r m := by unfold S.q_run; rw [Z_run.2]
theorem S.q_run_v {R : Type} (fu : Nat) (c : Cf) (load r m : Int) (k : AVal → List Blk → Option R) : S.run_L fu c load r m k = oK (S.run_gk c load r m k) (S.q_run fu c load r m) :=
  (S.run_v fu c load r m k).trans (by rw [S.q_run_eq])
noncomputable def H5s : Hnd := fun R args σ k => match args, σ with
  | [.agg [.int .i64 target_, .int .i64 util_, .int .i64 stable_, .int .i64 panic_, .int .i64 grain_, .int .i64 threshold_, .int .i64 up_, .int .i64 down_, .int .i64 min_, .int .i64 max_, .int .i64 initial_, .int .i64 grace_, .int .i64 delay_, .int .i64 burst_, .int .i64 limit_, .int .i64 queue_, .int .i64 timeout_, .int .i64 ready_, .int .i64 subset_, .int .i64 sample_], .int .i64 load, .int .i64 r, .int .i64 m], [] => oK (Sum.elim (fun v : Unit => k .nils []) (fun v : Nat × List (Int × Int × Int × Int × Bool × Int) => k (.slice 6 0 (0) v.1 none) [(.rows (Cd.pair (Cd.int .i64) (Cd.pair (Cd.int .i64) (Cd.pair (Cd.int .i64) (Cd.pair (Cd.int .i64) (Cd.pair Cd.bool (Cd.int .i64)))))) v.2 false)])) (S.q_run 100000 ⟨target_, util_, stable_, panic_, grain_, threshold_, up_, down_, min_, max_, initial_, grace_, delay_, burst_, limit_, queue_, timeout_, ready_, subset_, sample_⟩ load r m)
  | _, _ => none
theorem H5s_ok : HndOk Tryz.prog 5 H5s := hnd_ok tis tisOk mixOk G10_ok F5 Tryz.func5 rfl (by
  intro R args σ k r h
  unfold H5s at h
  split at h
  · rename_i target_ util_ stable_ panic_ grain_ threshold_ up_ down_ min_ max_ initial_ grace_ delay_ burst_ limit_ queue_ timeout_ ready_ subset_ sample_ load r m; exact ⟨100000, (S.q_run_v 100000 ⟨target_, util_, stable_, panic_, grain_, threshold_, up_, down_, min_, max_, initial_, grace_, delay_, burst_, limit_, queue_, timeout_, ready_, subset_, sample_⟩ load r m _).trans h⟩
  · cases h)
noncomputable def G5s : Env := Env.add 5 H5s G6
theorem G5s_ok : EnvOk Tryz.prog G5s := envAdd_ok H5s_ok G6_ok
noncomputable def Z_rsteady : {f : ∀ (fu : Nat) (c : Cf) (load r m : Int), Option ((Unit) ⊕ (Nat × List (Int × Int × Int × Int × Bool × Int))) // f = fun (fu : Nat) (c : Cf) (load r m : Int) => S.rsteady fu c load r m} := Classical.choice ⟨⟨_, rfl⟩⟩
noncomputable def S.q_rsteady (fu : Nat) (c : Cf) (load r m : Int) : Option ((Unit) ⊕ (Nat × List (Int × Int × Int × Int × Bool × Int))) := Z_rsteady.1 fu c load r m
theorem S.q_rsteady_eq (fu : Nat) (c : Cf) (load r m : Int) : S.q_rsteady fu c load r m = S.rsteady fu c load r m := by unfold S.q_rsteady; rw [Z_rsteady.2]
theorem S.q_rsteady_v {R : Type} (fu : Nat) (c : Cf) (load r m : Int) (k : AVal → List Blk → Option R) : S.rsteady_L fu c load r m k = oK (S.rsteady_gk c load r m k) (S.q_rsteady fu c load r m) :=
  (S.rsteady_v fu c load r m k).trans (by rw [S.q_rsteady_eq])
noncomputable def H6s : Hnd := fun R args σ k => match args, σ with
  | [.agg [.int .i64 target_, .int .i64 util_, .int .i64 stable_, .int .i64 panic_, .int .i64 grain_, .int .i64 threshold_, .int .i64 up_, .int .i64 down_, .int .i64 min_, .int .i64 max_, .int .i64 initial_, .int .i64 grace_, .int .i64 delay_, .int .i64 burst_, .int .i64 limit_, .int .i64 queue_, .int .i64 timeout_, .int .i64 ready_, .int .i64 subset_, .int .i64 sample_], .int .i64 load, .int .i64 r, .int .i64 m], [] => oK (Sum.elim (fun v : Unit => k .nils []) (fun v : Nat × List (Int × Int × Int × Int × Bool × Int) => k (.slice 6 0 (0) v.1 none) [(.rows (Cd.pair (Cd.int .i64) (Cd.pair (Cd.int .i64) (Cd.pair (Cd.int .i64) (Cd.pair (Cd.int .i64) (Cd.pair Cd.bool (Cd.int .i64)))))) v.2 false)])) (S.q_rsteady 100000 ⟨target_, util_, stable_, panic_, grain_, threshold_, up_, down_, min_, max_, initial_, grace_, delay_, burst_, limit_, queue_, timeout_, ready_, subset_, sample_⟩ load r m)
  | _, _ => none
theorem H6s_ok : HndOk Tryz.prog 6 H6s := hnd_ok tis tisOk mixOk G11_ok F6 Tryz.func6 rfl (by
  intro R args σ k r h
  unfold H6s at h
  split at h
  · rename_i target_ util_ stable_ panic_ grain_ threshold_ up_ down_ min_ max_ initial_ grace_ delay_ burst_ limit_ queue_ timeout_ ready_ subset_ sample_ load r m; exact ⟨100000, (S.q_rsteady_v 100000 ⟨target_, util_, stable_, panic_, grain_, threshold_, up_, down_, min_, max_, initial_, grace_, delay_, burst_, limit_, queue_, timeout_, ready_, subset_, sample_⟩ load r m _).trans h⟩
  · cases h)
noncomputable def G6s : Env := Env.add 6 H6s G5s
theorem G6s_ok : EnvOk Tryz.prog G6s := envAdd_ok H6s_ok G5s_ok

/-! spinnakerlaw26.told -/
def F7 : FCfg := ⟨keepAt [(0, []), (1, [1]), (2, [1, 2]), (3, [0])], loopAt [], []⟩
noncomputable def S.told26_L {R : Type}  (k : AVal → List Blk → Option R) : Option R := fnEval tis F7 0 G6s Tryz.f7 [] [] k
noncomputable def S.told26_gk {R : Type}  (k : AVal → List Blk → Option R) : (Bool) → Option R := (fun v : Bool => k (.bool v) [])
noncomputable def S.told26  : Option (Bool) :=
  (optK (S.q_run 100000 (Cf.mk 10000 700 60 6 1 2000 10000 2000 0 0 1 30 0 20000 10 100 60 3 0 0) 70000 1 3) fun o2 =>
   (Sum.elim (fun o3 : Unit =>
    some (false)) (fun o3 : Nat × List (Int × Int × Int × Int × Bool × Int) =>
    bif decide (((o3.1 : Nat) : Int) = 3) then
   bif inB 0 o3.1 then
   (optK (o3.2[0]?) fun o6 =>
   bif decide (o6.2.2.2.1 = 10) then
   bif inB 0 o3.1 then
   (optK (o3.2[0]?) fun o9 =>
   bif o9.2.2.2.2.1 then
   (optK (S.q_run 100000 (Cf.mk 10000 700 60 6 1 2000 10000 2000 0 0 1 30 0 20000 10 100 60 3 0 0) 1 1 (-1)) fun o11 =>
   (Sum.elim (fun o12 : Unit =>
    (optK (S.q_run 100000 (Cf.mk 0 0 0 0 0 0 0 0 0 0 0 0 0 0 0 0 0 0 0 0) 1 1 5) fun o13 =>
   (Sum.elim (fun o14 : Unit =>
    some (true)) (fun o14 : Nat × List (Int × Int × Int × Int × Bool × Int) =>
    some (decide (((o14.1 : Nat) : Int) = 0))) (o13)))) (fun o12 : Nat × List (Int × Int × Int × Int × Bool × Int) =>
    bif decide (((o12.1 : Nat) : Int) = 0) then
   (optK (S.q_run 100000 (Cf.mk 0 0 0 0 0 0 0 0 0 0 0 0 0 0 0 0 0 0 0 0) 1 1 5) fun o14 =>
   (Sum.elim (fun o15 : Unit =>
    some (true)) (fun o15 : Nat × List (Int × Int × Int × Int × Bool × Int) =>
    some (decide (((o15.1 : Nat) : Int) = 0))) (o14)))
 else
   some (false)) (o11)))
 else
   some (false))
 else
   none
 else
   some (false))
 else
   none
 else
   some (false)) (o2)))
theorem S.told26_v {R : Type}  (k : AVal → List Blk → Option R) : S.told26_L k = oK (S.told26_gk k) (S.told26) :=
  (show S.told26_L k =
  ((optK (S.q_run 100000 (Cf.mk 10000 700 60 6 1 2000 10000 2000 0 0 1 30 0 20000 10 100 60 3 0 0) 70000 1 3) fun o2 =>
   (Sum.elim (fun o3 : Unit =>
    (S.told26_gk k) (false)) (fun o3 : Nat × List (Int × Int × Int × Int × Bool × Int) =>
    bif decide (((o3.1 : Nat) : Int) = 3) then
   bif inB 0 o3.1 then
   (optK (o3.2[0]?) fun o6 =>
   bif decide (o6.2.2.2.1 = 10) then
   bif inB 0 o3.1 then
   (optK (o3.2[0]?) fun o9 =>
   bif o9.2.2.2.2.1 then
   (optK (S.q_run 100000 (Cf.mk 10000 700 60 6 1 2000 10000 2000 0 0 1 30 0 20000 10 100 60 3 0 0) 1 1 (-1)) fun o11 =>
   (Sum.elim (fun o12 : Unit =>
    (optK (S.q_run 100000 (Cf.mk 0 0 0 0 0 0 0 0 0 0 0 0 0 0 0 0 0 0 0 0) 1 1 5) fun o13 =>
   (Sum.elim (fun o14 : Unit =>
    (S.told26_gk k) (true)) (fun o14 : Nat × List (Int × Int × Int × Int × Bool × Int) =>
    (S.told26_gk k) (decide (((o14.1 : Nat) : Int) = 0))) (o13)))) (fun o12 : Nat × List (Int × Int × Int × Int × Bool × Int) =>
    bif decide (((o12.1 : Nat) : Int) = 0) then
   (optK (S.q_run 100000 (Cf.mk 0 0 0 0 0 0 0 0 0 0 0 0 0 0 0 0 0 0 0 0) 1 1 5) fun o14 =>
   (Sum.elim (fun o15 : Unit =>
    (S.told26_gk k) (true)) (fun o15 : Nat × List (Int × Int × Int × Int × Bool × Int) =>
    (S.told26_gk k) (decide (((o15.1 : Nat) : Int) = 0))) (o14)))
 else
   (S.told26_gk k) (false)) (o11)))
 else
   (S.told26_gk k) (false))
 else
   none
 else
   (S.told26_gk k) (false))
 else
   none
 else
   (S.told26_gk k) (false)) (o2)))) from by kernel_rfl).trans (by
      unfold S.told26
      refine opt_lift fun o2 => ?_
      refine sumF_lift (f := (oK (S.told26_gk k))) (fun o3 => ?_) (fun o3 => ?_) _
      · 
        exact rfl
      · 
        refine bif_lift (f := (oK (S.told26_gk k))) ?_ ?_
        · 
          refine bif_lift (f := (oK (S.told26_gk k))) ?_ ?_
          · 
            refine opt_lift fun o6 => ?_
            refine bif_lift (f := (oK (S.told26_gk k))) ?_ ?_
            · 
              refine bif_lift (f := (oK (S.told26_gk k))) ?_ ?_
              · 
                refine opt_lift fun o9 => ?_
                refine bif_lift (f := (oK (S.told26_gk k))) ?_ ?_
                · 
                  refine opt_lift fun o11 => ?_
                  refine sumF_lift (f := (oK (S.told26_gk k))) (fun o12 => ?_) (fun o12 => ?_) _
                  · 
                    refine opt_lift fun o13 => ?_
                    refine sumF_lift (f := (oK (S.told26_gk k))) (fun o14 => ?_) (fun o14 => ?_) _
                    · 
                      exact rfl
                    · 
                      exact rfl
                  · 
                    refine bif_lift (f := (oK (S.told26_gk k))) ?_ ?_
                    · 
                      refine opt_lift fun o14 => ?_
                      refine sumF_lift (f := (oK (S.told26_gk k))) (fun o15 => ?_) (fun o15 => ?_) _
                      · 
                        exact rfl
                      · 
                        exact rfl
                    · 
                      exact rfl
                · 
                  exact rfl
              · 
                exact rfl
            · 
              exact rfl
          · 
            exact rfl
        · 
          exact rfl
      )
noncomputable def H7 : Hnd := fun R args σ k => match args, σ with
  | [], [] => oK (fun v : Bool => k (.bool v) []) (S.told26)
  | _, _ => none
theorem H7_ok : HndOk Tryz.prog 7 H7 := hnd_ok tis tisOk mixOk G6s_ok F7 Tryz.func7 rfl (by
  intro R args σ k r h
  unfold H7 at h
  split at h
  · exact ⟨0, (S.told26_v _).trans h⟩
  · cases h)
noncomputable def G7 : Env := Env.add 7 H7 G6s
theorem G7_ok : EnvOk Tryz.prog G7 := envAdd_ok H7_ok G6s_ok
noncomputable def Z_told26 : {f : Option (Bool) // f = S.told26} := Classical.choice ⟨⟨_, rfl⟩⟩
noncomputable def S.q_told26 : Option (Bool) := Z_told26.1
theorem S.q_told26_eq : S.q_told26 = S.told26 := Z_told26.2
theorem S.q_told26_v {R : Type}  (k : AVal → List Blk → Option R) : S.told26_L k = oK (S.told26_gk k) (S.q_told26) :=
  (S.told26_v  k).trans (by rw [S.q_told26_eq])
noncomputable def H7s : Hnd := fun R args σ k => match args, σ with
  | [], [] => oK (fun v : Bool => k (.bool v) []) (S.q_told26)
  | _, _ => none
theorem H7s_ok : HndOk Tryz.prog 7 H7s := hnd_ok tis tisOk mixOk G6s_ok F7 Tryz.func7 rfl (by
  intro R args σ k r h
  unfold H7s at h
  split at h
  · exact ⟨0, (S.q_told26_v _).trans h⟩
  · cases h)
noncomputable def G7s : Env := Env.add 7 H7s G7
theorem G7s_ok : EnvOk Tryz.prog G7s := envAdd_ok H7s_ok G7_ok
noncomputable def Z_aim : {f : ∀ (c : Cf) (load : Int), Option (Int) // f = fun (c : Cf) (load : Int) => S.aim c load} := Classical.choice ⟨⟨_, rfl⟩⟩
noncomputable def S.q_aim (c : Cf) (load : Int) : Option (Int) := Z_aim.1 c load
theorem S.q_aim_eq (c : Cf) (load : Int) : S.q_aim c load = S.aim c load := by unfold S.q_aim; rw [Z_aim.2]
theorem S.q_aim_v {R : Type} (c : Cf) (load : Int) (k : AVal → List Blk → Option R) : S.aim_L c load k = oK (S.aim_gk c load k) (S.q_aim c load) :=
  (S.aim_v c load k).trans (by rw [S.q_aim_eq])
noncomputable def H8s : Hnd := fun R args σ k => match args, σ with
  | [.agg [.int .i64 target_, .int .i64 util_, .int .i64 stable_, .int .i64 panic_, .int .i64 grain_, .int .i64 threshold_, .int .i64 up_, .int .i64 down_, .int .i64 min_, .int .i64 max_, .int .i64 initial_, .int .i64 grace_, .int .i64 delay_, .int .i64 burst_, .int .i64 limit_, .int .i64 queue_, .int .i64 timeout_, .int .i64 ready_, .int .i64 subset_, .int .i64 sample_], .int .i64 load], [] => oK (fun v : Int => k (.int .i64 v) []) (S.q_aim ⟨target_, util_, stable_, panic_, grain_, threshold_, up_, down_, min_, max_, initial_, grace_, delay_, burst_, limit_, queue_, timeout_, ready_, subset_, sample_⟩ load)
  | _, _ => none
theorem H8s_ok : HndOk Tryz.prog 8 H8s := hnd_ok tis tisOk mixOk G24_ok F8 Tryz.func8 rfl (by
  intro R args σ k r h
  unfold H8s at h
  split at h
  · rename_i target_ util_ stable_ panic_ grain_ threshold_ up_ down_ min_ max_ initial_ grace_ delay_ burst_ limit_ queue_ timeout_ ready_ subset_ sample_ load; exact ⟨0, (S.q_aim_v ⟨target_, util_, stable_, panic_, grain_, threshold_, up_, down_, min_, max_, initial_, grace_, delay_, burst_, limit_, queue_, timeout_, ready_, subset_, sample_⟩ load _).trans h⟩
  · cases h)
noncomputable def G8s : Env := Env.add 8 H8s G7s
theorem G8s_ok : EnvOk Tryz.prog G8s := envAdd_ok H8s_ok G7s_ok
noncomputable def Z_raim : {f : ∀ (c : Cf) (load : Int), Option (Int) // f = fun (c : Cf) (load : Int) => S.raim c load} := Classical.choice ⟨⟨_, rfl⟩⟩
noncomputable def S.q_raim (c : Cf) (load : Int) : Option (Int) := Z_raim.1 c load
theorem S.q_raim_eq (c : Cf) (load : Int) : S.q_raim c load = S.raim c load := by unfold S.q_raim; rw [Z_raim.2]
theorem S.q_raim_v {R : Type} (c : Cf) (load : Int) (k : AVal → List Blk → Option R) : S.raim_L c load k = oK (S.raim_gk c load k) (S.q_raim c load) :=
  (S.raim_v c load k).trans (by rw [S.q_raim_eq])
noncomputable def H9s : Hnd := fun R args σ k => match args, σ with
  | [.agg [.int .i64 target_, .int .i64 util_, .int .i64 stable_, .int .i64 panic_, .int .i64 grain_, .int .i64 threshold_, .int .i64 up_, .int .i64 down_, .int .i64 min_, .int .i64 max_, .int .i64 initial_, .int .i64 grace_, .int .i64 delay_, .int .i64 burst_, .int .i64 limit_, .int .i64 queue_, .int .i64 timeout_, .int .i64 ready_, .int .i64 subset_, .int .i64 sample_], .int .i64 load], [] => oK (fun v : Int => k (.int .i64 v) []) (S.q_raim ⟨target_, util_, stable_, panic_, grain_, threshold_, up_, down_, min_, max_, initial_, grace_, delay_, burst_, limit_, queue_, timeout_, ready_, subset_, sample_⟩ load)
  | _, _ => none
theorem H9s_ok : HndOk Tryz.prog 9 H9s := hnd_ok tis tisOk mixOk G5_ok F9 Tryz.func9 rfl (by
  intro R args σ k r h
  unfold H9s at h
  split at h
  · rename_i target_ util_ stable_ panic_ grain_ threshold_ up_ down_ min_ max_ initial_ grace_ delay_ burst_ limit_ queue_ timeout_ ready_ subset_ sample_ load; exact ⟨0, (S.q_raim_v ⟨target_, util_, stable_, panic_, grain_, threshold_, up_, down_, min_, max_, initial_, grace_, delay_, burst_, limit_, queue_, timeout_, ready_, subset_, sample_⟩ load _).trans h⟩
  · cases h)
noncomputable def G9s : Env := Env.add 9 H9s G8s
theorem G9s_ok : EnvOk Tryz.prog G9s := envAdd_ok H9s_ok G8s_ok
end Go.Proofs.YtdgipcjigbagfaaGreat.AB
