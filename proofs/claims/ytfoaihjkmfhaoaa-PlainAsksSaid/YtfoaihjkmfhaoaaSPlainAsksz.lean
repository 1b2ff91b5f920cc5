/- The functions of PlainAsks, shut. -/
import Derived.Test.YtfoaihjkmfhaoaaSrplain
namespace Go.Proofs.Ytfoaihjkmfhaoaa.AB
set_option linter.unusedVariables false
noncomputable def Z_pnewest : {f : ∀ (fu : Nat) (l : RL) (lo len : Nat) (ro : Bool), Option (Int × RL) // f = fun (fu : Nat) (l : RL) (lo len : Nat) (ro : Bool) => S.pnewest fu l lo len ro} := Classical.choice ⟨⟨_, rfl⟩⟩
noncomputable def S.q_pnewest (fu : Nat) (l : RL) (lo len : Nat) (ro : Bool) : Option (Int × RL) := Z_pnewest.1 fu l lo len ro
theorem S.q_pnewest_eq (fu : Nat) (l : RL) (lo len : Nat) (ro : Bool) : S.q_pnewest fu l lo len ro = S.pnewest fu l lo len ro := by unfold S.q_pnewest; rw [Z_pnewest.2]
theorem S.q_pnewest_v {R : Type} (fu : Nat) (l : RL) (lo len : Nat) (ro : Bool) (k : AVal → List Blk → Option R) : fnEval tis F19 fu G23 Try.f19 [.slice 2 0 lo len none] [.rows (.pair (.int .i64) (.int .i64)) l ro] k = oK (fun v : Int × RL => k (.int .i64 v.1) [(.rows (Cd.pair (Cd.int .i64) (Cd.int .i64)) v.2 ro)]) (S.q_pnewest fu l lo len ro) :=
  (S.pnewest_v fu l lo len ro k).trans (by rw [S.q_pnewest_eq])
noncomputable def Z_pnewest1 : {f : ∀ (fu : Nat), Option (Int) // f = fun (fu : Nat) => S.pnewest1 fu} := Classical.choice ⟨⟨_, rfl⟩⟩
noncomputable def S.q_pnewest1 (fu : Nat) : Option (Int) := Z_pnewest1.1 fu
theorem S.q_pnewest1_eq (fu : Nat) : S.q_pnewest1 fu = S.pnewest1 fu := by unfold S.q_pnewest1; rw [Z_pnewest1.2]
theorem S.q_pnewest1_v {R : Type} (fu : Nat)  (k : AVal → List Blk → Option R) : fnEval tis F19 fu G23 Try.f19 [.nils] [] k = oK (fun v : Int => k (.int .i64 v) []) (S.q_pnewest1 fu ) :=
  (S.pnewest1_v fu k).trans (by rw [S.q_pnewest1_eq])
noncomputable def H19s : Hnd := fun R args σ k => match args, σ with
  | [.slice 2 0 lo len none], [.rows (.pair (.int .i64) (.int .i64)) l ro] => oK (fun v : Int × RL => k (.int .i64 v.1) [(.rows (Cd.pair (Cd.int .i64) (Cd.int .i64)) v.2 ro)]) (S.q_pnewest 100000 l lo len ro)
  | [.nils], [] => oK (fun v : Int => k (.int .i64 v) []) (S.q_pnewest1 100000)
  | _, _ => none
theorem H19s_ok : HndOk Try.prog 19 H19s := hnd_ok tis tisOk mixOk G23_ok F19 Try.func19 rfl (by
  intro R args σ k r h
  unfold H19s at h
  split at h
  · rename_i lo len l ro; exact ⟨100000, (S.q_pnewest_v 100000 l lo len ro _).trans h⟩
  · exact ⟨100000, (S.q_pnewest1_v 100000 _).trans h⟩
  · cases h)
noncomputable def G19s : Env := Env.add 19 H19s G17
theorem G19s_ok : EnvOk Try.prog G19s := envAdd_ok H19s_ok G17_ok
noncomputable def Z_psteady : {f : ∀ (fu : Nat) (l : RL) (lo len : Nat) (ro : Bool) (v : Int), Option (Bool × RL) // f = fun (fu : Nat) (l : RL) (lo len : Nat) (ro : Bool) (v : Int) => S.psteady fu l lo len ro v} := Classical.choice ⟨⟨_, rfl⟩⟩
noncomputable def S.q_psteady (fu : Nat) (l : RL) (lo len : Nat) (ro : Bool) (v : Int) : Option (Bool × RL) := Z_psteady.1 fu l lo len ro v
theorem S.q_psteady_eq (fu : Nat) (l : RL) (lo len : Nat) (ro : Bool) (v : Int) : S.q_psteady fu l lo len ro v = S.psteady fu l lo len ro v := by unfold S.q_psteady; rw [Z_psteady.2]
theorem S.q_psteady_v {R : Type} (fu : Nat) (l : RL) (lo len : Nat) (ro : Bool) (v : Int) (k : AVal → List Blk → Option R) : fnEval tis F21 fu G19 Try.f21 [.slice 2 0 lo len none, .int .i64 v] [.rows (.pair (.int .i64) (.int .i64)) l ro] k = oK (fun v : Bool × RL => k (.bool v.1) [(.rows (Cd.pair (Cd.int .i64) (Cd.int .i64)) v.2 ro)]) (S.q_psteady fu l lo len ro v) :=
  (S.psteady_v fu l lo len ro v k).trans (by rw [S.q_psteady_eq])
noncomputable def Z_psteady1 : {f : ∀ (fu : Nat) (v : Int), Option (Bool) // f = fun (fu : Nat) (v : Int) => S.psteady1 fu v} := Classical.choice ⟨⟨_, rfl⟩⟩
noncomputable def S.q_psteady1 (fu : Nat) (v : Int) : Option (Bool) := Z_psteady1.1 fu v
theorem S.q_psteady1_eq (fu : Nat) (v : Int) : S.q_psteady1 fu v = S.psteady1 fu v := by unfold S.q_psteady1; rw [Z_psteady1.2]
theorem S.q_psteady1_v {R : Type} (fu : Nat) (v : Int) (k : AVal → List Blk → Option R) : fnEval tis F21 fu G19 Try.f21 [.nils, .int .i64 v] [] k = oK (fun v : Bool => k (.bool v) []) (S.q_psteady1 fu v) :=
  (S.psteady1_v fu v k).trans (by rw [S.q_psteady1_eq])
noncomputable def H21s : Hnd := fun R args σ k => match args, σ with
  | [.slice 2 0 lo len none, .int .i64 v], [.rows (.pair (.int .i64) (.int .i64)) l ro] => oK (fun v : Bool × RL => k (.bool v.1) [(.rows (Cd.pair (Cd.int .i64) (Cd.int .i64)) v.2 ro)]) (S.q_psteady 100000 l lo len ro v)
  | [.nils, .int .i64 v], [] => oK (fun v : Bool => k (.bool v) []) (S.q_psteady1 100000 v)
  | _, _ => none
theorem H21s_ok : HndOk Try.prog 21 H21s := hnd_ok tis tisOk mixOk G19_ok F21 Try.func21 rfl (by
  intro R args σ k r h
  unfold H21s at h
  split at h
  · rename_i lo len v l ro; exact ⟨100000, (S.q_psteady_v 100000 l lo len ro v _).trans h⟩
  · rename_i v; exact ⟨100000, (S.q_psteady1_v 100000 v _).trans h⟩
  · cases h)
noncomputable def G21s : Env := Env.add 21 H21s G19s
theorem G21s_ok : EnvOk Try.prog G21s := envAdd_ok H21s_ok G19s_ok
noncomputable def Z_psum : {f : ∀ (fu : Nat) (l : RL) (lo len : Nat) (ro : Bool) (w g t : Int), Option (Int × Int × RL) // f = fun (fu : Nat) (l : RL) (lo len : Nat) (ro : Bool) (w g t : Int) => S.psum fu l lo len ro w g t} := Classical.choice ⟨⟨_, rfl⟩⟩
noncomputable def S.q_psum (fu : Nat) (l : RL) (lo len : Nat) (ro : Bool) (w g t : Int) : Option (Int × Int × RL) := Z_psum.1 fu l lo len ro w g t
theorem S.q_psum_eq (fu : Nat) (l : RL) (lo len : Nat) (ro : Bool) (w g t : Int) : S.q_psum fu l lo len ro w g t = S.psum fu l lo len ro w g t := by unfold S.q_psum; rw [Z_psum.2]
theorem S.q_psum_v {R : Type} (fu : Nat) (l : RL) (lo len : Nat) (ro : Bool) (w g t : Int) (k : AVal → List Blk → Option R) : fnEval tis F15 fu G21 Try.f15 [.slice 2 0 lo len none, .int .i64 w, .int .i64 g, .int .i64 t] [.rows (.pair (.int .i64) (.int .i64)) l ro] k = oK (fun v : Int × Int × RL => k (.tuple [(.int .i64 v.1), (.int .i64 v.2.1)]) [(.rows (Cd.pair (Cd.int .i64) (Cd.int .i64)) v.2.2 ro)]) (S.q_psum fu l lo len ro w g t) :=
  (S.psum_v fu l lo len ro w g t k).trans (by rw [S.q_psum_eq])
noncomputable def Z_psum1 : {f : ∀ (fu : Nat) (w g t : Int), Option (Int × Int) // f = fun (fu : Nat) (w g t : Int) => S.psum1 fu w g t} := Classical.choice ⟨⟨_, rfl⟩⟩
noncomputable def S.q_psum1 (fu : Nat) (w g t : Int) : Option (Int × Int) := Z_psum1.1 fu w g t
theorem S.q_psum1_eq (fu : Nat) (w g t : Int) : S.q_psum1 fu w g t = S.psum1 fu w g t := by unfold S.q_psum1; rw [Z_psum1.2]
theorem S.q_psum1_v {R : Type} (fu : Nat) (w g t : Int) (k : AVal → List Blk → Option R) : fnEval tis F15 fu G21 Try.f15 [.nils, .int .i64 w, .int .i64 g, .int .i64 t] [] k = oK (fun v : Int × Int => k (.tuple [(.int .i64 v.1), (.int .i64 v.2)]) []) (S.q_psum1 fu w g t) :=
  (S.psum1_v fu w g t k).trans (by rw [S.q_psum1_eq])
noncomputable def H15s : Hnd := fun R args σ k => match args, σ with
  | [.slice 2 0 lo len none, .int .i64 w, .int .i64 g, .int .i64 t], [.rows (.pair (.int .i64) (.int .i64)) l ro] => oK (fun v : Int × Int × RL => k (.tuple [(.int .i64 v.1), (.int .i64 v.2.1)]) [(.rows (Cd.pair (Cd.int .i64) (Cd.int .i64)) v.2.2 ro)]) (S.q_psum 100000 l lo len ro w g t)
  | [.nils, .int .i64 w, .int .i64 g, .int .i64 t], [] => oK (fun v : Int × Int => k (.tuple [(.int .i64 v.1), (.int .i64 v.2)]) []) (S.q_psum1 100000 w g t)
  | _, _ => none
theorem H15s_ok : HndOk Try.prog 15 H15s := hnd_ok tis tisOk mixOk G21_ok F15 Try.func15 rfl (by
  intro R args σ k r h
  unfold H15s at h
  split at h
  · rename_i lo len w g t l ro; exact ⟨100000, (S.q_psum_v 100000 l lo len ro w g t _).trans h⟩
  · rename_i w g t; exact ⟨100000, (S.q_psum1_v 100000 w g t _).trans h⟩
  · cases h)
noncomputable def G15s : Env := Env.add 15 H15s G21s
theorem G15s_ok : EnvOk Try.prog G15s := envAdd_ok H15s_ok G21s_ok
noncomputable def Z_pmean : {f : ∀ (l : RL) (lo len : Nat) (ro : Bool) (w g t : Int), Option (Int × List (Int × Int)) // f = fun (l : RL) (lo len : Nat) (ro : Bool) (w g t : Int) => S.pmean l lo len ro w g t} := Classical.choice ⟨⟨_, rfl⟩⟩
noncomputable def S.q_pmean (l : RL) (lo len : Nat) (ro : Bool) (w g t : Int) : Option (Int × List (Int × Int)) := Z_pmean.1 l lo len ro w g t
theorem S.q_pmean_eq (l : RL) (lo len : Nat) (ro : Bool) (w g t : Int) : S.q_pmean l lo len ro w g t = S.pmean l lo len ro w g t := by unfold S.q_pmean; rw [Z_pmean.2]
theorem S.q_pmean_v {R : Type} (l : RL) (lo len : Nat) (ro : Bool) (w g t : Int) (k : AVal → List Blk → Option R) : fnEval tis F18 0 G15 Try.f18 [.slice 2 0 lo len none, .int .i64 w, .int .i64 g, .int .i64 t] [.rows (.pair (.int .i64) (.int .i64)) l ro] k = oK (fun v : Int × List (Int × Int) => k (.int .i64 v.1) [(.rows (Cd.pair (Cd.int .i64) (Cd.int .i64)) v.2 ro)]) (S.q_pmean l lo len ro w g t) :=
  (S.pmean_v l lo len ro w g t k).trans (by rw [S.q_pmean_eq])
noncomputable def H18s : Hnd := fun R args σ k => match args, σ with
  | [.slice 2 0 lo len none, .int .i64 w, .int .i64 g, .int .i64 t], [.rows (.pair (.int .i64) (.int .i64)) l ro] => oK (fun v : Int × List (Int × Int) => k (.int .i64 v.1) [(.rows (Cd.pair (Cd.int .i64) (Cd.int .i64)) v.2 ro)]) (S.q_pmean l lo len ro w g t)
  | _, _ => none
theorem H18s_ok : HndOk Try.prog 18 H18s := hnd_ok tis tisOk mixOk G15_ok F18 Try.func18 rfl (by
  intro R args σ k r h
  unfold H18s at h
  split at h
  · rename_i lo len w g t l ro; exact ⟨0, (S.q_pmean_v l lo len ro w g t _).trans h⟩
  · cases h)
noncomputable def G18s : Env := Env.add 18 H18s G15s
theorem G18s_ok : EnvOk Try.prog G18s := envAdd_ok H18s_ok G15s_ok
noncomputable def Z_rnewest : {f : ∀ (fu : Nat) (l : RL) (lo len : Nat) (ro : Bool), Option (Int × RL) // f = fun (fu : Nat) (l : RL) (lo len : Nat) (ro : Bool) => S.rnewest fu l lo len ro} := Classical.choice ⟨⟨_, rfl⟩⟩
noncomputable def S.q_rnewest (fu : Nat) (l : RL) (lo len : Nat) (ro : Bool) : Option (Int × RL) := Z_rnewest.1 fu l lo len ro
theorem S.q_rnewest_eq (fu : Nat) (l : RL) (lo len : Nat) (ro : Bool) : S.q_rnewest fu l lo len ro = S.rnewest fu l lo len ro := by unfold S.q_rnewest; rw [Z_rnewest.2]
theorem S.q_rnewest_v {R : Type} (fu : Nat) (l : RL) (lo len : Nat) (ro : Bool) (k : AVal → List Blk → Option R) : fnEval tis F20 fu G50 Try.f20 [.slice 2 0 lo len none] [.rows (.pair (.int .i64) (.int .i64)) l ro] k = oK (fun v : Int × RL => k (.int .i64 v.1) [(.rows (Cd.pair (Cd.int .i64) (Cd.int .i64)) v.2 ro)]) (S.q_rnewest fu l lo len ro) :=
  (S.rnewest_v fu l lo len ro k).trans (by rw [S.q_rnewest_eq])
noncomputable def H20s : Hnd := fun R args σ k => match args, σ with
  | [.slice 2 0 lo len none], [.rows (.pair (.int .i64) (.int .i64)) l ro] => oK (fun v : Int × RL => k (.int .i64 v.1) [(.rows (Cd.pair (Cd.int .i64) (Cd.int .i64)) v.2 ro)]) (S.q_rnewest 100000 l lo len ro)
  | _, _ => none
theorem H20s_ok : HndOk Try.prog 20 H20s := hnd_ok tis tisOk mixOk G50_ok F20 Try.func20 rfl (by
  intro R args σ k r h
  unfold H20s at h
  split at h
  · rename_i lo len l ro; exact ⟨100000, (S.q_rnewest_v 100000 l lo len ro _).trans h⟩
  · cases h)
noncomputable def G20s : Env := Env.add 20 H20s G18s
theorem G20s_ok : EnvOk Try.prog G20s := envAdd_ok H20s_ok G18s_ok
noncomputable def Z_rsteady : {f : ∀ (fu : Nat) (l : RL) (lo len : Nat) (ro : Bool) (v : Int), Option (Bool × RL) // f = fun (fu : Nat) (l : RL) (lo len : Nat) (ro : Bool) (v : Int) => S.rsteady fu l lo len ro v} := Classical.choice ⟨⟨_, rfl⟩⟩
noncomputable def S.q_rsteady (fu : Nat) (l : RL) (lo len : Nat) (ro : Bool) (v : Int) : Option (Bool × RL) := Z_rsteady.1 fu l lo len ro v
theorem S.q_rsteady_eq (fu : Nat) (l : RL) (lo len : Nat) (ro : Bool) (v : Int) : S.q_rsteady fu l lo len ro v = S.rsteady fu l lo len ro v := by unfold S.q_rsteady; rw [Z_rsteady.2]
theorem S.q_rsteady_v {R : Type} (fu : Nat) (l : RL) (lo len : Nat) (ro : Bool) (v : Int) (k : AVal → List Blk → Option R) : fnEval tis F22 fu G20 Try.f22 [.slice 2 0 lo len none, .int .i64 v] [.rows (.pair (.int .i64) (.int .i64)) l ro] k = oK (fun v : Bool × RL => k (.bool v.1) [(.rows (Cd.pair (Cd.int .i64) (Cd.int .i64)) v.2 ro)]) (S.q_rsteady fu l lo len ro v) :=
  (S.rsteady_v fu l lo len ro v k).trans (by rw [S.q_rsteady_eq])
noncomputable def H22s : Hnd := fun R args σ k => match args, σ with
  | [.slice 2 0 lo len none, .int .i64 v], [.rows (.pair (.int .i64) (.int .i64)) l ro] => oK (fun v : Bool × RL => k (.bool v.1) [(.rows (Cd.pair (Cd.int .i64) (Cd.int .i64)) v.2 ro)]) (S.q_rsteady 100000 l lo len ro v)
  | _, _ => none
theorem H22s_ok : HndOk Try.prog 22 H22s := hnd_ok tis tisOk mixOk G20_ok F22 Try.func22 rfl (by
  intro R args σ k r h
  unfold H22s at h
  split at h
  · rename_i lo len v l ro; exact ⟨100000, (S.q_rsteady_v 100000 l lo len ro v _).trans h⟩
  · cases h)
noncomputable def G22s : Env := Env.add 22 H22s G20s
theorem G22s_ok : EnvOk Try.prog G22s := envAdd_ok H22s_ok G20s_ok
noncomputable def Z_rplain : {f : ∀ (fu : Nat) (l : RL) (lo len : Nat) (ro : Bool) (w g t : Int), Option (Int × Int × RL) // f = fun (fu : Nat) (l : RL) (lo len : Nat) (ro : Bool) (w g t : Int) => S.rplain fu l lo len ro w g t} := Classical.choice ⟨⟨_, rfl⟩⟩
noncomputable def S.q_rplain (fu : Nat) (l : RL) (lo len : Nat) (ro : Bool) (w g t : Int) : Option (Int × Int × RL) := Z_rplain.1 fu l lo len ro w g t
theorem S.q_rplain_eq (fu : Nat) (l : RL) (lo len : Nat) (ro : Bool) (w g t : Int) : S.q_rplain fu l lo len ro w g t = S.rplain fu l lo len ro w g t := by unfold S.q_rplain; rw [Z_rplain.2]
theorem S.q_rplain_v {R : Type} (fu : Nat) (l : RL) (lo len : Nat) (ro : Bool) (w g t : Int) (k : AVal → List Blk → Option R) : fnEval tis F17 fu G22 Try.f17 [.slice 2 0 lo len none, .int .i64 w, .int .i64 g, .int .i64 t] [.rows (.pair (.int .i64) (.int .i64)) l ro] k = oK (fun v : Int × Int × RL => k (.tuple [(.int .i64 v.1), (.int .i64 v.2.1)]) [(.rows (Cd.pair (Cd.int .i64) (Cd.int .i64)) v.2.2 ro)]) (S.q_rplain fu l lo len ro w g t) :=
  (S.rplain_v fu l lo len ro w g t k).trans (by rw [S.q_rplain_eq])
noncomputable def H17s : Hnd := fun R args σ k => match args, σ with
  | [.slice 2 0 lo len none, .int .i64 w, .int .i64 g, .int .i64 t], [.rows (.pair (.int .i64) (.int .i64)) l ro] => oK (fun v : Int × Int × RL => k (.tuple [(.int .i64 v.1), (.int .i64 v.2.1)]) [(.rows (Cd.pair (Cd.int .i64) (Cd.int .i64)) v.2.2 ro)]) (S.q_rplain 100000 l lo len ro w g t)
  | _, _ => none
theorem H17s_ok : HndOk Try.prog 17 H17s := hnd_ok tis tisOk mixOk G22_ok F17 Try.func17 rfl (by
  intro R args σ k r h
  unfold H17s at h
  split at h
  · rename_i lo len w g t l ro; exact ⟨100000, (S.q_rplain_v 100000 l lo len ro w g t _).trans h⟩
  · cases h)
noncomputable def G17s : Env := Env.add 17 H17s G22s
theorem G17s_ok : EnvOk Try.prog G17s := envAdd_ok H17s_ok G22s_ok

/-! spinnakerlaw6.PlainAsks -/
def F4 : FCfg := ⟨keepAt [(0, [0, 1, 2, 3, 4]), (1, [0, 1, 2, 3, 4, 18]), (2, [10]), (3, [0, 1, 2, 3, 4, 11, 12]), (4, [0, 1, 2, 3, 4, 11, 12, 13, 14]), (5, [0, 1, 2, 3, 4, 11, 12, 13, 14, 15]), (6, [0, 1, 2, 3, 4, 11, 12, 13, 14, 15, 37]), (7, [0, 1, 2, 3, 4, 11, 12, 13, 14, 15]), (8, [10])], loopAt [], []⟩
theorem S.PlainAsks_k {R : Type} (l : RL) (len : Nat) (w g t v : Int) (k : AVal → List Blk → Option R) : fnEval tis F4 0 G17s Try.f4 [.slice 2 0 0 len none, .int .i64 w, .int .i64 g, .int .i64 t, .int .i64 v] [.rows (.pair (.int .i64) (.int .i64)) l true] k =
  (bif decide (60 < ((len : Nat) : Int)) then
    k (.bool true) ([.rows (Cd.pair (Cd.int .i64) (Cd.int .i64)) l true])
  else
    (optK (S.q_psum 100000 l 0 len true w g t) fun o3 =>
      (optK (S.q_rplain 100000 (Prod.snd (Prod.snd o3)) 0 len true w g t) fun o4 =>
        bif decide (0 < Prod.fst (Prod.snd o4)) then
          bif decide (Prod.fst (Prod.snd o4) = 0) then
            none
          else
            bif decide (Prod.fst o3 = Prod.fst o4) then
              bif decide (Prod.fst (Prod.snd o3) = Prod.fst (Prod.snd o4)) then
                (optK (S.q_pmean (Prod.snd (Prod.snd o4)) 0 len true w g t) fun o9 =>
                  bif decide (Prod.fst o9 = Go.IntKind.wrap .i64 (Int.tdiv (Prod.fst o4) (Prod.fst (Prod.snd o4)))) then
                    (optK (S.q_pnewest 100000 (Prod.snd o9) 0 len true) fun o11 =>
                      (optK (S.q_rnewest 100000 (Prod.snd o11) 0 len true) fun o12 =>
                        bif decide (Prod.fst o11 = Prod.fst o12) then
                          (optK (S.q_psteady 100000 (Prod.snd o12) 0 len true v) fun o14 =>
                            (optK (S.q_rsteady 100000 (Prod.snd o14) 0 len true v) fun o15 =>
                              k (.bool (Prod.fst o14 == Prod.fst o15)) ([.rows (Cd.pair (Cd.int .i64) (Cd.int .i64)) (Prod.snd o15) true])))
                        else
                          k (.bool false) ([.rows (Cd.pair (Cd.int .i64) (Cd.int .i64)) (Prod.snd o12) true])))
                  else
                    k (.bool false) ([.rows (Cd.pair (Cd.int .i64) (Cd.int .i64)) (Prod.snd o9) true]))
              else
                k (.bool false) ([.rows (Cd.pair (Cd.int .i64) (Cd.int .i64)) (Prod.snd (Prod.snd o4)) true])
            else
              k (.bool false) ([.rows (Cd.pair (Cd.int .i64) (Cd.int .i64)) (Prod.snd (Prod.snd o4)) true])
        else
          bif decide (Prod.fst o3 = Prod.fst o4) then
            bif decide (Prod.fst (Prod.snd o3) = Prod.fst (Prod.snd o4)) then
              (optK (S.q_pmean (Prod.snd (Prod.snd o4)) 0 len true w g t) fun o8 =>
                bif decide (Prod.fst o8 = 0) then
                  (optK (S.q_pnewest 100000 (Prod.snd o8) 0 len true) fun o10 =>
                    (optK (S.q_rnewest 100000 (Prod.snd o10) 0 len true) fun o11 =>
                      bif decide (Prod.fst o10 = Prod.fst o11) then
                        (optK (S.q_psteady 100000 (Prod.snd o11) 0 len true v) fun o13 =>
                          (optK (S.q_rsteady 100000 (Prod.snd o13) 0 len true v) fun o14 =>
                            k (.bool (Prod.fst o13 == Prod.fst o14)) ([.rows (Cd.pair (Cd.int .i64) (Cd.int .i64)) (Prod.snd o14) true])))
                      else
                        k (.bool false) ([.rows (Cd.pair (Cd.int .i64) (Cd.int .i64)) (Prod.snd o11) true])))
                else
                  k (.bool false) ([.rows (Cd.pair (Cd.int .i64) (Cd.int .i64)) (Prod.snd o8) true]))
            else
              k (.bool false) ([.rows (Cd.pair (Cd.int .i64) (Cd.int .i64)) (Prod.snd (Prod.snd o4)) true])
          else
            k (.bool false) ([.rows (Cd.pair (Cd.int .i64) (Cd.int .i64)) (Prod.snd (Prod.snd o4)) true])))) := by kernel_rfl
noncomputable def S.PlainAsks (l : RL) (len : Nat) (w g t v : Int) : Option ((Unit) ⊕ (Bool × List (Int × Int))) :=
  bif decide (60 < ((len : Nat) : Int)) then
    some (.inl ())
  else
    (optK (S.q_psum 100000 l 0 len true w g t) fun o3 =>
      (optK (S.q_rplain 100000 (Prod.snd (Prod.snd o3)) 0 len true w g t) fun o4 =>
        bif decide (0 < Prod.fst (Prod.snd o4)) then
          bif decide (Prod.fst (Prod.snd o4) = 0) then
            none
          else
            bif decide (Prod.fst o3 = Prod.fst o4) then
              bif decide (Prod.fst (Prod.snd o3) = Prod.fst (Prod.snd o4)) then
                (optK (S.q_pmean (Prod.snd (Prod.snd o4)) 0 len true w g t) fun o9 =>
                  bif decide (Prod.fst o9 = Go.IntKind.wrap .i64 (Int.tdiv (Prod.fst o4) (Prod.fst (Prod.snd o4)))) then
                    (optK (S.q_pnewest 100000 (Prod.snd o9) 0 len true) fun o11 =>
                      (optK (S.q_rnewest 100000 (Prod.snd o11) 0 len true) fun o12 =>
                        bif decide (Prod.fst o11 = Prod.fst o12) then
                          (optK (S.q_psteady 100000 (Prod.snd o12) 0 len true v) fun o14 =>
                            (optK (S.q_rsteady 100000 (Prod.snd o14) 0 len true v) fun o15 =>
                              some (.inr (Prod.fst o14 == Prod.fst o15, Prod.snd o15))))
                        else
                          some (.inr (false, Prod.snd o12))))
                  else
                    some (.inr (false, Prod.snd o9)))
              else
                some (.inr (false, Prod.snd (Prod.snd o4)))
            else
              some (.inr (false, Prod.snd (Prod.snd o4)))
        else
          bif decide (Prod.fst o3 = Prod.fst o4) then
            bif decide (Prod.fst (Prod.snd o3) = Prod.fst (Prod.snd o4)) then
              (optK (S.q_pmean (Prod.snd (Prod.snd o4)) 0 len true w g t) fun o8 =>
                bif decide (Prod.fst o8 = 0) then
                  (optK (S.q_pnewest 100000 (Prod.snd o8) 0 len true) fun o10 =>
                    (optK (S.q_rnewest 100000 (Prod.snd o10) 0 len true) fun o11 =>
                      bif decide (Prod.fst o10 = Prod.fst o11) then
                        (optK (S.q_psteady 100000 (Prod.snd o11) 0 len true v) fun o13 =>
                          (optK (S.q_rsteady 100000 (Prod.snd o13) 0 len true v) fun o14 =>
                            some (.inr (Prod.fst o13 == Prod.fst o14, Prod.snd o14))))
                      else
                        some (.inr (false, Prod.snd o11))))
                else
                  some (.inr (false, Prod.snd o8)))
            else
              some (.inr (false, Prod.snd (Prod.snd o4)))
          else
            some (.inr (false, Prod.snd (Prod.snd o4)))))
theorem S.PlainAsks_v {R : Type} (l : RL) (len : Nat) (w g t v : Int) (k : AVal → List Blk → Option R) : fnEval tis F4 0 G17s Try.f4 [.slice 2 0 0 len none, .int .i64 w, .int .i64 g, .int .i64 t, .int .i64 v] [.rows (.pair (.int .i64) (.int .i64)) l true] k = oK (Sum.elim (fun v : Unit => k (.bool (true)) [(.rows (Cd.pair (Cd.int .i64) (Cd.int .i64)) l true)]) (fun v : Bool × List (Int × Int) => k (.bool v.1) [(.rows (Cd.pair (Cd.int .i64) (Cd.int .i64)) v.2 true)])) (S.PlainAsks l len w g t v) :=
  (S.PlainAsks_k l len w g t v k).trans (bif_lift (f := (oK (Sum.elim (fun v : Unit => k (.bool (true)) [(.rows (Cd.pair (Cd.int .i64) (Cd.int .i64)) l true)]) (fun v : Bool × List (Int × Int) => k (.bool v.1) [(.rows (Cd.pair (Cd.int .i64) (Cd.int .i64)) v.2 true)])))) rfl (opt_lift fun o3 => (opt_lift fun o4 => (bif_lift (f := (oK (Sum.elim (fun v : Unit => k (.bool (true)) [(.rows (Cd.pair (Cd.int .i64) (Cd.int .i64)) l true)]) (fun v : Bool × List (Int × Int) => k (.bool v.1) [(.rows (Cd.pair (Cd.int .i64) (Cd.int .i64)) v.2 true)])))) (bif_lift (f := (oK (Sum.elim (fun v : Unit => k (.bool (true)) [(.rows (Cd.pair (Cd.int .i64) (Cd.int .i64)) l true)]) (fun v : Bool × List (Int × Int) => k (.bool v.1) [(.rows (Cd.pair (Cd.int .i64) (Cd.int .i64)) v.2 true)])))) rfl (bif_lift (f := (oK (Sum.elim (fun v : Unit => k (.bool (true)) [(.rows (Cd.pair (Cd.int .i64) (Cd.int .i64)) l true)]) (fun v : Bool × List (Int × Int) => k (.bool v.1) [(.rows (Cd.pair (Cd.int .i64) (Cd.int .i64)) v.2 true)])))) (bif_lift (f := (oK (Sum.elim (fun v : Unit => k (.bool (true)) [(.rows (Cd.pair (Cd.int .i64) (Cd.int .i64)) l true)]) (fun v : Bool × List (Int × Int) => k (.bool v.1) [(.rows (Cd.pair (Cd.int .i64) (Cd.int .i64)) v.2 true)])))) (opt_lift fun o9 => (bif_lift (f := (oK (Sum.elim (fun v : Unit => k (.bool (true)) [(.rows (Cd.pair (Cd.int .i64) (Cd.int .i64)) l true)]) (fun v : Bool × List (Int × Int) => k (.bool v.1) [(.rows (Cd.pair (Cd.int .i64) (Cd.int .i64)) v.2 true)])))) (opt_lift fun o11 => (opt_lift fun o12 => (bif_lift (f := (oK (Sum.elim (fun v : Unit => k (.bool (true)) [(.rows (Cd.pair (Cd.int .i64) (Cd.int .i64)) l true)]) (fun v : Bool × List (Int × Int) => k (.bool v.1) [(.rows (Cd.pair (Cd.int .i64) (Cd.int .i64)) v.2 true)])))) (opt_lift fun o14 => (opt_lift fun o15 => rfl)) rfl))) rfl)) rfl) rfl)) (bif_lift (f := (oK (Sum.elim (fun v : Unit => k (.bool (true)) [(.rows (Cd.pair (Cd.int .i64) (Cd.int .i64)) l true)]) (fun v : Bool × List (Int × Int) => k (.bool v.1) [(.rows (Cd.pair (Cd.int .i64) (Cd.int .i64)) v.2 true)])))) (bif_lift (f := (oK (Sum.elim (fun v : Unit => k (.bool (true)) [(.rows (Cd.pair (Cd.int .i64) (Cd.int .i64)) l true)]) (fun v : Bool × List (Int × Int) => k (.bool v.1) [(.rows (Cd.pair (Cd.int .i64) (Cd.int .i64)) v.2 true)])))) (opt_lift fun o8 => (bif_lift (f := (oK (Sum.elim (fun v : Unit => k (.bool (true)) [(.rows (Cd.pair (Cd.int .i64) (Cd.int .i64)) l true)]) (fun v : Bool × List (Int × Int) => k (.bool v.1) [(.rows (Cd.pair (Cd.int .i64) (Cd.int .i64)) v.2 true)])))) (opt_lift fun o10 => (opt_lift fun o11 => (bif_lift (f := (oK (Sum.elim (fun v : Unit => k (.bool (true)) [(.rows (Cd.pair (Cd.int .i64) (Cd.int .i64)) l true)]) (fun v : Bool × List (Int × Int) => k (.bool v.1) [(.rows (Cd.pair (Cd.int .i64) (Cd.int .i64)) v.2 true)])))) (opt_lift fun o13 => (opt_lift fun o14 => rfl)) rfl))) rfl)) rfl) rfl)))))
noncomputable def H4 : Hnd := fun R args σ k => match args, σ with
  | [.slice 2 0 0 len none, .int .i64 w, .int .i64 g, .int .i64 t, .int .i64 v], [.rows (.pair (.int .i64) (.int .i64)) l true] => oK (Sum.elim (fun v : Unit => k (.bool (true)) [(.rows (Cd.pair (Cd.int .i64) (Cd.int .i64)) l true)]) (fun v : Bool × List (Int × Int) => k (.bool v.1) [(.rows (Cd.pair (Cd.int .i64) (Cd.int .i64)) v.2 true)])) (S.PlainAsks l len w g t v)
  | _, _ => none
theorem H4_ok : HndOk Try.prog 4 H4 := hnd_ok tis tisOk mixOk G17s_ok F4 Try.func4 rfl (by
  intro R args σ k r h
  unfold H4 at h
  split at h
  · rename_i len w g t v l; exact ⟨0, (S.PlainAsks_v l len w g t v _).trans h⟩
  · cases h)
noncomputable def G4 : Env := Env.add 4 H4 G17s
theorem G4_ok : EnvOk Try.prog G4 := envAdd_ok H4_ok G17s_ok
end Go.Proofs.Ytfoaihjkmfhaoaa.AB
