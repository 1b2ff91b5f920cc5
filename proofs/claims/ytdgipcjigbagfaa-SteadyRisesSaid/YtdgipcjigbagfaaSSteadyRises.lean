/- SteadyRises, as a plain function. -/
import Derived.Test.YtdgipcjigbagfaaStold26
namespace Go.Proofs.Ytdgipcjigbagfaa.AB
set_option linter.unusedVariables false

/-! spinnakerlaw26.SteadyRises -/
def F4 : FCfg := ⟨keepAt [(0, [0]), (1, [0, 3]), (2, [3, 4]), (3, [4, 5]), (4, [4, 5, 18]), (5, [2]), (6, [5, 6]), (7, [5, 6, 36]), (8, [2]), (9, [5, 6, 7]), (10, [5, 6, 7, 40]), (11, [5, 6, 7]), (12, [5, 6, 7, 70]), (13, [2]), (14, [2])], loopAt [(10, [5, 6, 7], [])], []⟩
noncomputable def C_SteadyRises (fu : Nat) (a : Int) : Cfg := Cfg.of tis F4 fu (List.length ([] : List Blk)) Try.f4.ntmps
noncomputable def S.SteadyRises_b0 : Code := codeAt (bodyOf Try.f4) [1, 1, 1, 1, 1, 1, 1, 0, 1, 0, 0]
noncomputable def S.SteadyRises_s0 (a : Int) (y0 : Nat) (y1 : Int) (y2 : List (Int × Int × Int × Int × Bool × Int)) : St := ⟨[(5, (.slice 6 0 (0) (y0) none)), (6, (.int .i64 (Go.IntKind.wrap .i64 (Int.tdiv (Go.IntKind.wrap .i64 (Go.IntKind.wrap .i64 (Int.tmod (Go.IntKind.wrap .u64 a) 700001) + 6999)) 7000)))), (7, (.int .i64 (y1)))], [(.rows (Cd.pair (Cd.int .i64) (Cd.pair (Cd.int .i64) (Cd.pair (Cd.int .i64) (Cd.pair (Cd.int .i64) (Cd.pair Cd.bool (Cd.int .i64)))))) (y2) false)]⟩
noncomputable def S.SteadyRises_x0_0 (a : Int) (z0 : List (Int × Int × Int × Int × Bool × Int)) : St := ⟨[(2, (.bool (false)))], [(.rows (Cd.pair (Cd.int .i64) (Cd.pair (Cd.int .i64) (Cd.pair (Cd.int .i64) (Cd.pair (Cd.int .i64) (Cd.pair Cd.bool (Cd.int .i64)))))) (z0) false)]⟩
noncomputable def S.SteadyRises_x0_1 (a : Int) (z0 : Nat) (z1 : Int) (z2 : Bool) (z3 : List (Int × Int × Int × Int × Bool × Int)) : St := ⟨[(5, (.slice 6 0 (0) (z0) none)), (6, (.int .i64 (Go.IntKind.wrap .i64 (Int.tdiv (Go.IntKind.wrap .i64 (Go.IntKind.wrap .i64 (Int.tmod (Go.IntKind.wrap .u64 a) 700001) + 6999)) 7000)))), (7, (.int .i64 (z1))), (40, (.bool (z2)))], [(.rows (Cd.pair (Cd.int .i64) (Cd.pair (Cd.int .i64) (Cd.pair (Cd.int .i64) (Cd.pair (Cd.int .i64) (Cd.pair Cd.bool (Cd.int .i64)))))) (z3) false)]⟩
noncomputable def S.SteadyRises_g0 {R : Type} (a : Int) (K : Ex → St → Option R) : ((List (Int × Int × Int × Int × Bool × Int)) ⊕ (Nat × Int × Bool × List (Int × Int × Int × Int × Bool × Int))) → Option R := (Sum.elim (fun z : List (Int × Int × Int × Int × Bool × Int) => K (Ex.ret) (S.SteadyRises_x0_0 a (z))) (fun z : Nat × Int × Bool × List (Int × Int × Int × Int × Bool × Int) => K (Ex.exit 0) (S.SteadyRises_x0_1 a (z.1) (z.2.1) (z.2.2.1) (z.2.2.2))))
noncomputable def S.SteadyRises_gk {R : Type} (a : Int) (k : AVal → List Blk → Option R) : (Bool) → Option R := (fun v : Bool => k (.bool v) [])
theorem S.SteadyRises_l0_k {R : Type} (fu : Nat) (a : Int) (n : Nat) (K : Ex → St → Option R) (y0 : Nat) (y1 : Int) (y2 : List (Int × Int × Int × Int × Bool × Int)) : loopRun (C_SteadyRises fu a) G17s S.SteadyRises_b0 (n + 1) (S.SteadyRises_s0 a (y0) (y1) (y2)) K =
  (bif decide (y1 < ((y0 : Nat) : Int)) then
   bif inB y1 y0 then
   (optK (y2[Int.toNat y1 + 0]?) fun o4 =>
   bif inB (Go.IntKind.wrap .i64 (y1 - 1)) y0 then
   (optK (y2[Int.toNat (Go.IntKind.wrap .i64 (y1 - 1)) + 0]?) fun o6 =>
   bif decide (o4.2.2.2.1 < o6.2.2.2.1) then
   bif inB y1 y0 then
   (optK (y2[Int.toNat y1 + 0]?) fun o9 =>
   bif inB (Go.IntKind.wrap .i64 (y1 - 1)) y0 then
   (optK (y2[Int.toNat (Go.IntKind.wrap .i64 (y1 - 1)) + 0]?) fun o11 =>
   bif decide (o9.2.2.2.1 < if o11.2.2.2.1 < Go.IntKind.wrap .i64 (Int.tdiv (Go.IntKind.wrap .i64 (Go.IntKind.wrap .i64 (Int.tmod (Go.IntKind.wrap .u64 a) 700001) + 6999)) 7000) then o11.2.2.2.1 else Go.IntKind.wrap .i64 (Int.tdiv (Go.IntKind.wrap .i64 (Go.IntKind.wrap .i64 (Int.tmod (Go.IntKind.wrap .u64 a) 700001) + 6999)) 7000)) then
   K (Ex.ret) (S.SteadyRises_x0_0 a (y2))
 else
   loopRun (C_SteadyRises fu a) G17s S.SteadyRises_b0 n (S.SteadyRises_s0 a (y0) (Go.IntKind.wrap .i64 (y1 + 1)) (y2)) K)
 else
   none)
 else
   none
 else
   loopRun (C_SteadyRises fu a) G17s S.SteadyRises_b0 n (S.SteadyRises_s0 a (y0) (Go.IntKind.wrap .i64 (y1 + 1)) (y2)) K)
 else
   none)
 else
   none
 else
   K (Ex.exit 0) (S.SteadyRises_x0_1 a (y0) (y1) (decide (y1 < ((y0 : Nat) : Int))) (y2))) := by kernel_rfl
noncomputable def S.SteadyRises_l0 (fu : Nat) (a : Int) : Nat → (Nat) → (Int) → (List (Int × Int × Int × Int × Bool × Int)) → Option ((List (Int × Int × Int × Int × Bool × Int)) ⊕ (Nat × Int × Bool × List (Int × Int × Int × Int × Bool × Int)))
  | 0, _, _, _ => none
  | n + 1, y0, y1, y2 =>
    bif decide (y1 < ((y0 : Nat) : Int)) then
   bif inB y1 y0 then
   (optK (y2[Int.toNat y1 + 0]?) fun o4 =>
   bif inB (Go.IntKind.wrap .i64 (y1 - 1)) y0 then
   (optK (y2[Int.toNat (Go.IntKind.wrap .i64 (y1 - 1)) + 0]?) fun o6 =>
   bif decide (o4.2.2.2.1 < o6.2.2.2.1) then
   bif inB y1 y0 then
   (optK (y2[Int.toNat y1 + 0]?) fun o9 =>
   bif inB (Go.IntKind.wrap .i64 (y1 - 1)) y0 then
   (optK (y2[Int.toNat (Go.IntKind.wrap .i64 (y1 - 1)) + 0]?) fun o11 =>
   bif decide (o9.2.2.2.1 < if o11.2.2.2.1 < Go.IntKind.wrap .i64 (Int.tdiv (Go.IntKind.wrap .i64 (Go.IntKind.wrap .i64 (Int.tmod (Go.IntKind.wrap .u64 a) 700001) + 6999)) 7000) then o11.2.2.2.1 else Go.IntKind.wrap .i64 (Int.tdiv (Go.IntKind.wrap .i64 (Go.IntKind.wrap .i64 (Int.tmod (Go.IntKind.wrap .u64 a) 700001) + 6999)) 7000)) then
   some (.inl (y2))
 else
   (S.SteadyRises_l0 fu a n) (y0) (Go.IntKind.wrap .i64 (y1 + 1)) (y2))
 else
   none)
 else
   none
 else
   (S.SteadyRises_l0 fu a n) (y0) (Go.IntKind.wrap .i64 (y1 + 1)) (y2))
 else
   none)
 else
   none
 else
   some (.inr (y0, y1, decide (y1 < ((y0 : Nat) : Int)), y2))
theorem S.SteadyRises_l0_v {R : Type} (fu : Nat) (a : Int) (K : Ex → St → Option R) : ∀ (n : Nat) (y0 : Nat) (y1 : Int) (y2 : List (Int × Int × Int × Int × Bool × Int)), loopRun (C_SteadyRises fu a) G17s S.SteadyRises_b0 n (S.SteadyRises_s0 a (y0) (y1) (y2)) K = oK (β := (List (Int × Int × Int × Int × Bool × Int)) ⊕ (Nat × Int × Bool × List (Int × Int × Int × Int × Bool × Int))) (S.SteadyRises_g0 a K) (S.SteadyRises_l0 fu a n y0 y1 y2)
  | 0, _, _, _ => rfl
  | n + 1, y0, y1, y2 => (S.SteadyRises_l0_k fu a n K y0 y1 y2).trans (bif_lift (f := (oK (S.SteadyRises_g0 a K))) (bif_lift (f := (oK (S.SteadyRises_g0 a K))) (opt_lift fun o4 => (bif_lift (f := (oK (S.SteadyRises_g0 a K))) (opt_lift fun o6 => (bif_lift (f := (oK (S.SteadyRises_g0 a K))) (bif_lift (f := (oK (S.SteadyRises_g0 a K))) (opt_lift fun o9 => (bif_lift (f := (oK (S.SteadyRises_g0 a K))) (opt_lift fun o11 => (bif_lift (f := (oK (S.SteadyRises_g0 a K))) rfl (S.SteadyRises_l0_v fu a K n (y0) (Go.IntKind.wrap .i64 (y1 + 1)) (y2)))) rfl)) rfl) (S.SteadyRises_l0_v fu a K n (y0) (Go.IntKind.wrap .i64 (y1 + 1)) (y2)))) rfl)) rfl) rfl)
theorem S.SteadyRises_a0_1_k {R : Type} (fu : Nat) (a : Int) (z0 : Nat) (z1 : Int) (z2 : Bool) (z3 : List (Int × Int × Int × Int × Bool × Int)) (k : AVal → List Blk → Option R) : contOf (C_SteadyRises fu a) G17s (bodyOf Try.f4) [1, 1, 1, 1, 1, 1, 1, 0, 1, 0] (retK tis F4 Try.f4 (List.length ([] : List Blk)) k) (Ex.exit 0) (S.SteadyRises_x0_1 a (z0) (z1) (z2) (z3)) =
  ((optK (S.q_told26) fun o2 =>
   k (.bool o2) ([]))) := by kernel_rfl
noncomputable def S.SteadyRises_a0_1 (fu : Nat) (a : Int) (z0 : Nat) (z1 : Int) (z2 : Bool) (z3 : List (Int × Int × Int × Int × Bool × Int)) : Option (Bool) :=
  (optK (S.q_told26) fun o2 =>
   some (o2))
theorem S.SteadyRises_a0_1_v {R : Type} (fu : Nat) (a : Int) (z0 : Nat) (z1 : Int) (z2 : Bool) (z3 : List (Int × Int × Int × Int × Bool × Int)) (k : AVal → List Blk → Option R) : contOf (C_SteadyRises fu a) G17s (bodyOf Try.f4) [1, 1, 1, 1, 1, 1, 1, 0, 1, 0] (retK tis F4 Try.f4 (List.length ([] : List Blk)) k) (Ex.exit 0) (S.SteadyRises_x0_1 a (z0) (z1) (z2) (z3)) = oK (S.SteadyRises_gk a k) (S.SteadyRises_a0_1 fu a z0 z1 z2 z3) :=
  (S.SteadyRises_a0_1_k fu a z0 z1 z2 z3 k).trans (opt_lift fun o2 => rfl)
theorem S.SteadyRises_a0_0_k {R : Type} (fu : Nat) (a : Int) (z0 : List (Int × Int × Int × Int × Bool × Int)) (k : AVal → List Blk → Option R) : contOf (C_SteadyRises fu a) G17s (bodyOf Try.f4) [1, 1, 1, 1, 1, 1, 1, 0, 1, 0] (retK tis F4 Try.f4 (List.length ([] : List Blk)) k) (Ex.ret) (S.SteadyRises_x0_0 a (z0)) =
  (k (.bool false) ([])) := by kernel_rfl
noncomputable def S.SteadyRises_a0_0 (fu : Nat) (a : Int) (z0 : List (Int × Int × Int × Int × Bool × Int)) : Option (Bool) :=
  some (false)
theorem S.SteadyRises_a0_0_v {R : Type} (fu : Nat) (a : Int) (z0 : List (Int × Int × Int × Int × Bool × Int)) (k : AVal → List Blk → Option R) : contOf (C_SteadyRises fu a) G17s (bodyOf Try.f4) [1, 1, 1, 1, 1, 1, 1, 0, 1, 0] (retK tis F4 Try.f4 (List.length ([] : List Blk)) k) (Ex.ret) (S.SteadyRises_x0_0 a (z0)) = oK (S.SteadyRises_gk a k) (S.SteadyRises_a0_0 fu a z0) :=
  (S.SteadyRises_a0_0_k fu a z0 k).trans rfl
theorem S.SteadyRises_k {R : Type} (fu : Nat) (a : Int) (k : AVal → List Blk → Option R) : fnEval tis F4 fu G17s Try.f4 [.int .i64 a] [] k =
  ((optK (S.q_run 100000 (Cf.mk 10000 700 60 6 1 2000 10000 2000 0 0 1 30 0 20000 10 100 60 3 0 0) (Go.IntKind.wrap .i64 (Int.tmod (Go.IntKind.wrap .u64 a) 700001)) 1 100) fun o2 =>
   (Sum.elim (fun o3 : Unit =>
    k (.bool false) ([])) (fun o3 : Nat × List (Int × Int × Int × Int × Bool × Int) =>
    bif !decide (((o3.1 : Nat) : Int) = 100) then
   k (.bool false) ([])
 else
   bif inB 0 o3.1 then
   (optK (o3.2[0]?) fun o6 =>
   bif !o6.2.2.2.2.1 == decide (2 ≤ Go.IntKind.wrap .i64 (Int.tdiv (Go.IntKind.wrap .i64 (Go.IntKind.wrap .i64 (Int.tmod (Go.IntKind.wrap .u64 a) 700001) + 6999)) 7000)) then
   k (.bool false) ([])
 else
   bif inB 99 o3.1 then
   (optK (o3.2[99]?) fun o9 =>
   bif !decide (o9.2.2.2.1 = Go.IntKind.wrap .i64 (Int.tdiv (Go.IntKind.wrap .i64 (Go.IntKind.wrap .i64 (Int.tmod (Go.IntKind.wrap .u64 a) 700001) + 6999)) 7000)) then
   k (.bool false) ([])
 else
   loopRun (C_SteadyRises fu a) G17s S.SteadyRises_b0 fu (S.SteadyRises_s0 a (o3.1) (1) (o3.2)) (contOf (C_SteadyRises fu a) G17s (bodyOf Try.f4) [1, 1, 1, 1, 1, 1, 1, 0, 1, 0] (retK tis F4 Try.f4 (List.length ([] : List Blk)) k)))
 else
   none)
 else
   none) (o2)))) := by kernel_rfl
noncomputable def S.SteadyRises (fu : Nat) (a : Int) : Option (Bool) :=
  (optK (S.q_run 100000 (Cf.mk 10000 700 60 6 1 2000 10000 2000 0 0 1 30 0 20000 10 100 60 3 0 0) (Go.IntKind.wrap .i64 (Int.tmod (Go.IntKind.wrap .u64 a) 700001)) 1 100) fun o2 =>
   (Sum.elim (fun o3 : Unit =>
    some (false)) (fun o3 : Nat × List (Int × Int × Int × Int × Bool × Int) =>
    bif !decide (((o3.1 : Nat) : Int) = 100) then
   some (false)
 else
   bif inB 0 o3.1 then
   (optK (o3.2[0]?) fun o6 =>
   bif !o6.2.2.2.2.1 == decide (2 ≤ Go.IntKind.wrap .i64 (Int.tdiv (Go.IntKind.wrap .i64 (Go.IntKind.wrap .i64 (Int.tmod (Go.IntKind.wrap .u64 a) 700001) + 6999)) 7000)) then
   some (false)
 else
   bif inB 99 o3.1 then
   (optK (o3.2[99]?) fun o9 =>
   bif !decide (o9.2.2.2.1 = Go.IntKind.wrap .i64 (Int.tdiv (Go.IntKind.wrap .i64 (Go.IntKind.wrap .i64 (Int.tmod (Go.IntKind.wrap .u64 a) 700001) + 6999)) 7000)) then
   some (false)
 else
   optK (S.SteadyRises_l0 fu a fu (o3.1) (1) (o3.2)) (Sum.elim (fun z : List (Int × Int × Int × Int × Bool × Int) => S.SteadyRises_a0_0 fu a (z)) (fun z : Nat × Int × Bool × List (Int × Int × Int × Int × Bool × Int) => S.SteadyRises_a0_1 fu a (z.1) (z.2.1) (z.2.2.1) (z.2.2.2))))
 else
   none)
 else
   none) (o2)))
theorem S.SteadyRises_v {R : Type} (fu : Nat) (a : Int) (k : AVal → List Blk → Option R) : fnEval tis F4 fu G17s Try.f4 [.int .i64 a] [] k = oK (fun v : Bool => k (.bool v) []) (S.SteadyRises fu a) :=
  (S.SteadyRises_k fu a k).trans (by
      unfold S.SteadyRises
      refine opt_lift fun o2 => ?_
      refine sumF_lift (f := (oK (S.SteadyRises_gk a k))) (fun o3 => ?_) (fun o3 => ?_) _
      · 
        exact rfl
      · 
        refine bif_lift (f := (oK (S.SteadyRises_gk a k))) ?_ ?_
        · 
          exact rfl
        · 
          refine bif_lift (f := (oK (S.SteadyRises_gk a k))) ?_ ?_
          · 
            refine opt_lift fun o6 => ?_
            refine bif_lift (f := (oK (S.SteadyRises_gk a k))) ?_ ?_
            · 
              exact rfl
            · 
              refine bif_lift (f := (oK (S.SteadyRises_gk a k))) ?_ ?_
              · 
                refine opt_lift fun o9 => ?_
                refine bif_lift (f := (oK (S.SteadyRises_gk a k))) ?_ ?_
                · 
                  exact rfl
                · 
                  exact (arr_lift (S.SteadyRises_l0_v fu a (contOf (C_SteadyRises fu a) G17s (bodyOf Try.f4) [1, 1, 1, 1, 1, 1, 1, 0, 1, 0] (retK tis F4 Try.f4 (List.length ([] : List Blk)) k)) fu (o3.1) (1) (o3.2)) ((sum_lift (fun z => S.SteadyRises_a0_0_v fu a (z) k) (fun z => S.SteadyRises_a0_1_v fu a (z.1) (z.2.1) (z.2.2.1) (z.2.2.2) k))))
              · 
                exact rfl
          · 
            exact rfl
      )
noncomputable def H4 : Hnd := fun R args σ k => match args, σ with
  | [.int .i64 a], [] => oK (fun v : Bool => k (.bool v) []) (S.SteadyRises 100000 a)
  | _, _ => none
theorem H4_ok : HndOk Try.prog 4 H4 := hnd_ok tis tisOk mixOk G17s_ok F4 Try.func4 rfl (by
  intro R args σ k r h
  unfold H4 at h
  split at h
  · rename_i a; exact ⟨100000, (S.SteadyRises_v 100000 a _).trans h⟩
  · cases h)
noncomputable def G4 : Env := Env.add 4 H4 G17s
theorem G4_ok : EnvOk Try.prog G4 := envAdd_ok H4_ok G17s_ok
end Go.Proofs.Ytdgipcjigbagfaa.AB
