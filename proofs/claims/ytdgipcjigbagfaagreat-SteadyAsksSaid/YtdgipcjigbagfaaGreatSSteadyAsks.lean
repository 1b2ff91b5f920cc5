/- SteadyAsks, as a plain function. -/
import Derived.Test.YtdgipcjigbagfaaGreatStold26
namespace Go.Proofs.YtdgipcjigbagfaaGreat.AB
set_option linter.unusedVariables false

/-! spinnakerlaw26.SteadyAsks -/
def F3 : FCfg := ⟨keepAt [(0, [1, 2, 3, 4]), (1, [1, 2, 4, 9]), (2, [1, 2, 4, 9, 15]), (3, [1, 2, 4, 9]), (4, [1, 4, 10, 11]), (5, [1, 4, 10, 11, 32]), (6, [8]), (7, [1, 4, 10, 11, 12]), (8, [1, 4, 10, 11, 12, 36]), (9, [1, 4, 10, 11, 12]), (10, [1, 4, 10, 11, 12, 47]), (11, [8]), (12, [8])], loopAt [(8, [1, 4, 10, 11, 12], [⟨0, true, 10, [], 0, .pair (.int .i64) (.pair (.int .i64) (.pair (.int .i64) (.pair (.int .i64) (.pair (.bool) (.int .i64))))), none⟩, ⟨0, true, 11, [], 0, .pair (.int .i64) (.pair (.int .i64) (.pair (.int .i64) (.pair (.int .i64) (.pair (.bool) (.int .i64))))), none⟩])], []⟩
noncomputable def C_SteadyAsks (fu : Nat) (c : Cf) (load r m : Int) : Cfg := Cfg.of tis F3 fu (List.length ([] : List Blk)) Tryz.f3.ntmps
noncomputable def S.SteadyAsks_b0 : Code := codeAt (bodyOf Tryz.f3) [1, 1, 1, 1, 1, 0, 1, 0, 0]
noncomputable def S.SteadyAsks_s0 (c : Cf) (load r m : Int) (y0 : Nat) (y1 : Nat) (y2 : Int) (y3 : Cf) (y4 : List (Int × Int × Int × Int × Bool × Int)) (y5 : List (Int × Int × Int × Int × Bool × Int)) : St := ⟨[(1, (.int .i64 (load))), (4, (.ptr 0 (0) 0)), (10, (.slice 6 1 (0) (y0) none)), (11, (.slice 6 2 (0) (y1) none)), (12, (.int .i64 (y2)))], [(.var (cfA y3)), (.rows (Cd.pair (Cd.int .i64) (Cd.pair (Cd.int .i64) (Cd.pair (Cd.int .i64) (Cd.pair (Cd.int .i64) (Cd.pair Cd.bool (Cd.int .i64)))))) (y4) false), (.rows (Cd.pair (Cd.int .i64) (Cd.pair (Cd.int .i64) (Cd.pair (Cd.int .i64) (Cd.pair (Cd.int .i64) (Cd.pair Cd.bool (Cd.int .i64)))))) (y5) false)]⟩
noncomputable def S.SteadyAsks_x0_0 (c : Cf) (load r m : Int) (z0 : Cf) (z1 : List (Int × Int × Int × Int × Bool × Int)) (z2 : List (Int × Int × Int × Int × Bool × Int)) : St := ⟨[(8, (.bool (false)))], [(.var (cfA z0)), (.rows (Cd.pair (Cd.int .i64) (Cd.pair (Cd.int .i64) (Cd.pair (Cd.int .i64) (Cd.pair (Cd.int .i64) (Cd.pair Cd.bool (Cd.int .i64)))))) (z1) false), (.rows (Cd.pair (Cd.int .i64) (Cd.pair (Cd.int .i64) (Cd.pair (Cd.int .i64) (Cd.pair (Cd.int .i64) (Cd.pair Cd.bool (Cd.int .i64)))))) (z2) false)]⟩
noncomputable def S.SteadyAsks_x0_1 (c : Cf) (load r m : Int) (z0 : Nat) (z1 : Nat) (z2 : Int) (z3 : Bool) (z4 : Cf) (z5 : List (Int × Int × Int × Int × Bool × Int)) (z6 : List (Int × Int × Int × Int × Bool × Int)) : St := ⟨[(1, (.int .i64 (load))), (4, (.ptr 0 (0) 0)), (10, (.slice 6 1 (0) (z0) none)), (11, (.slice 6 2 (0) (z1) none)), (12, (.int .i64 (z2))), (36, (.bool (z3)))], [(.var (cfA z4)), (.rows (Cd.pair (Cd.int .i64) (Cd.pair (Cd.int .i64) (Cd.pair (Cd.int .i64) (Cd.pair (Cd.int .i64) (Cd.pair Cd.bool (Cd.int .i64)))))) (z5) false), (.rows (Cd.pair (Cd.int .i64) (Cd.pair (Cd.int .i64) (Cd.pair (Cd.int .i64) (Cd.pair (Cd.int .i64) (Cd.pair Cd.bool (Cd.int .i64)))))) (z6) false)]⟩
noncomputable def S.SteadyAsks_g0 {R : Type} (c : Cf) (load r m : Int) (K : Ex → St → Option R) : ((Cf × List (Int × Int × Int × Int × Bool × Int) × List (Int × Int × Int × Int × Bool × Int)) ⊕ (Nat × Nat × Int × Bool × Cf × List (Int × Int × Int × Int × Bool × Int) × List (Int × Int × Int × Int × Bool × Int))) → Option R := (Sum.elim (fun z : Cf × List (Int × Int × Int × Int × Bool × Int) × List (Int × Int × Int × Int × Bool × Int) => K (Ex.ret) (S.SteadyAsks_x0_0 c load r m (z.1) (z.2.1) (z.2.2))) (fun z : Nat × Nat × Int × Bool × Cf × List (Int × Int × Int × Int × Bool × Int) × List (Int × Int × Int × Int × Bool × Int) => K (Ex.exit 0) (S.SteadyAsks_x0_1 c load r m (z.1) (z.2.1) (z.2.2.1) (z.2.2.2.1) (z.2.2.2.2.1) (z.2.2.2.2.2.1) (z.2.2.2.2.2.2))))
noncomputable def S.SteadyAsks_gk {R : Type} (c : Cf) (load r m : Int) (k : AVal → List Blk → Option R) : (Bool) → Option R := (fun v : Bool => k (.bool v) [])
theorem S.SteadyAsks_l0_k {R : Type} (fu : Nat) (c : Cf) (load r m : Int) (n : Nat) (K : Ex → St → Option R) (y0 : Nat) (y1 : Nat) (y2 : Int) (y3 : Cf) (y4 : List (Int × Int × Int × Int × Bool × Int)) (y5 : List (Int × Int × Int × Int × Bool × Int)) : loopRun (C_SteadyAsks fu c load r m) G9s S.SteadyAsks_b0 (n + 1) (S.SteadyAsks_s0 c load r m (y0) (y1) (y2) (y3) (y4) (y5)) K =
  (bif decide (y2 < ((y0 : Nat) : Int)) then
   bif inB y2 y0 then
   (optK (y4[Int.toNat y2 + 0]?) fun o4 =>
   bif inB y2 y1 then
   (optK (y5[Int.toNat y2 + 0]?) fun o6 =>
   bif !(decide (o4.1 = o6.1) && (decide (o4.2.1 = o6.2.1) && (decide (o4.2.2.1 = o6.2.2.1) && (decide (o4.2.2.2.1 = o6.2.2.2.1) && (o4.2.2.2.2.1 == o6.2.2.2.2.1 && (decide (o4.2.2.2.2.2 = o6.2.2.2.2.2) && true)))))) then
   K (Ex.ret) (S.SteadyAsks_x0_0 c load r m (y3) (y4) (y5))
 else
   loopRun (C_SteadyAsks fu c load r m) G9s S.SteadyAsks_b0 n (S.SteadyAsks_s0 c load r m (y0) (y1) (Go.IntKind.wrap .i64 (y2 + 1)) (y3) (y4) (y5)) K)
 else
   none)
 else
   none
 else
   K (Ex.exit 0) (S.SteadyAsks_x0_1 c load r m (y0) (y1) (y2) (decide (y2 < ((y0 : Nat) : Int))) (y3) (y4) (y5))) := by kernel_rfl
noncomputable def S.SteadyAsks_l0 (fu : Nat) (c : Cf) (load r m : Int) : Nat → (Nat) → (Nat) → (Int) → (Cf) → (List (Int × Int × Int × Int × Bool × Int)) → (List (Int × Int × Int × Int × Bool × Int)) → Option ((Cf × List (Int × Int × Int × Int × Bool × Int) × List (Int × Int × Int × Int × Bool × Int)) ⊕ (Nat × Nat × Int × Bool × Cf × List (Int × Int × Int × Int × Bool × Int) × List (Int × Int × Int × Int × Bool × Int)))
  | 0, _, _, _, _, _, _ => none
  | n + 1, y0, y1, y2, y3, y4, y5 =>
    bif decide (y2 < ((y0 : Nat) : Int)) then
   bif inB y2 y0 then
   (optK (y4[Int.toNat y2 + 0]?) fun o4 =>
   bif inB y2 y1 then
   (optK (y5[Int.toNat y2 + 0]?) fun o6 =>
   bif !(decide (o4.1 = o6.1) && (decide (o4.2.1 = o6.2.1) && (decide (o4.2.2.1 = o6.2.2.1) && (decide (o4.2.2.2.1 = o6.2.2.2.1) && (o4.2.2.2.2.1 == o6.2.2.2.2.1 && (decide (o4.2.2.2.2.2 = o6.2.2.2.2.2) && true)))))) then
   some (.inl (y3, y4, y5))
 else
   (S.SteadyAsks_l0 fu c load r m n) (y0) (y1) (Go.IntKind.wrap .i64 (y2 + 1)) (y3) (y4) (y5))
 else
   none)
 else
   none
 else
   some (.inr (y0, y1, y2, decide (y2 < ((y0 : Nat) : Int)), y3, y4, y5))
theorem S.SteadyAsks_l0_v {R : Type} (fu : Nat) (c : Cf) (load r m : Int) (K : Ex → St → Option R) : ∀ (n : Nat) (y0 : Nat) (y1 : Nat) (y2 : Int) (y3 : Cf) (y4 : List (Int × Int × Int × Int × Bool × Int)) (y5 : List (Int × Int × Int × Int × Bool × Int)), loopRun (C_SteadyAsks fu c load r m) G9s S.SteadyAsks_b0 n (S.SteadyAsks_s0 c load r m (y0) (y1) (y2) (y3) (y4) (y5)) K = oK (β := (Cf × List (Int × Int × Int × Int × Bool × Int) × List (Int × Int × Int × Int × Bool × Int)) ⊕ (Nat × Nat × Int × Bool × Cf × List (Int × Int × Int × Int × Bool × Int) × List (Int × Int × Int × Int × Bool × Int))) (S.SteadyAsks_g0 c load r m K) (S.SteadyAsks_l0 fu c load r m n y0 y1 y2 y3 y4 y5)
  | 0, _, _, _, _, _, _ => rfl
  | n + 1, y0, y1, y2, y3, y4, y5 => (S.SteadyAsks_l0_k fu c load r m n K y0 y1 y2 y3 y4 y5).trans (bif_lift (f := (oK (S.SteadyAsks_g0 c load r m K))) (bif_lift (f := (oK (S.SteadyAsks_g0 c load r m K))) (opt_lift fun o4 => (bif_lift (f := (oK (S.SteadyAsks_g0 c load r m K))) (opt_lift fun o6 => (bif_lift (f := (oK (S.SteadyAsks_g0 c load r m K))) rfl (S.SteadyAsks_l0_v fu c load r m K n (y0) (y1) (Go.IntKind.wrap .i64 (y2 + 1)) (y3) (y4) (y5)))) rfl)) rfl) rfl)
noncomputable def S.SteadyAsks_a0_1 (fu : Nat) (c : Cf) (load r m : Int) (z0 : Nat) (z1 : Nat) (z2 : Int) (z3 : Bool) (z4 : Cf) (z5 : List (Int × Int × Int × Int × Bool × Int)) (z6 : List (Int × Int × Int × Int × Bool × Int)) : Option (Bool) :=
  (optK (S.q_told26) fun o2 =>
   bif o2 then
   (optK (S.q_aim z4 load) fun o4 =>
   (optK (S.q_raim z4 load) fun o5 =>
   bif decide (o4 = o5) then
   some (decide (S.tks z4 = S.rtks z4))
 else
   some (false)))
 else
   some (false))
theorem S.SteadyAsks_a0_1_v {R : Type} (fu : Nat) (c : Cf) (load r m : Int) (z0 : Nat) (z1 : Nat) (z2 : Int) (z3 : Bool) (z4 : Cf) (z5 : List (Int × Int × Int × Int × Bool × Int)) (z6 : List (Int × Int × Int × Int × Bool × Int)) (k : AVal → List Blk → Option R) : contOf (C_SteadyAsks fu c load r m) G9s (bodyOf Tryz.f3) [1, 1, 1, 1, 1, 0, 1, 0] (retK tis F3 Tryz.f3 (List.length ([] : List Blk)) k) (Ex.exit 0) (S.SteadyAsks_x0_1 c load r m (z0) (z1) (z2) (z3) (z4) (z5) (z6)) = oK (S.SteadyAsks_gk c load r m k) (S.SteadyAsks_a0_1 fu c load r m z0 z1 z2 z3 z4 z5 z6) :=
  (show contOf (C_SteadyAsks fu c load r m) G9s (bodyOf Tryz.f3) [1, 1, 1, 1, 1, 0, 1, 0] (retK tis F3 Tryz.f3 (List.length ([] : List Blk)) k) (Ex.exit 0) (S.SteadyAsks_x0_1 c load r m (z0) (z1) (z2) (z3) (z4) (z5) (z6)) =
  ((optK (S.q_told26) fun o2 =>
   bif o2 then
   (optK (S.q_aim z4 load) fun o4 =>
   (optK (S.q_raim z4 load) fun o5 =>
   bif decide (o4 = o5) then
   (S.SteadyAsks_gk c load r m k) (decide (S.tks z4 = S.rtks z4))
 else
   (S.SteadyAsks_gk c load r m k) (false)))
 else
   (S.SteadyAsks_gk c load r m k) (false))) from by kernel_rfl).trans (opt_lift fun o2 => (bif_lift (f := (oK (S.SteadyAsks_gk c load r m k))) (opt_lift fun o4 => (opt_lift fun o5 => (bif_lift (f := (oK (S.SteadyAsks_gk c load r m k))) rfl rfl))) rfl))
noncomputable def S.SteadyAsks_a0_0 (fu : Nat) (c : Cf) (load r m : Int) (z0 : Cf) (z1 : List (Int × Int × Int × Int × Bool × Int)) (z2 : List (Int × Int × Int × Int × Bool × Int)) : Option (Bool) :=
  some (false)
theorem S.SteadyAsks_a0_0_v {R : Type} (fu : Nat) (c : Cf) (load r m : Int) (z0 : Cf) (z1 : List (Int × Int × Int × Int × Bool × Int)) (z2 : List (Int × Int × Int × Int × Bool × Int)) (k : AVal → List Blk → Option R) : contOf (C_SteadyAsks fu c load r m) G9s (bodyOf Tryz.f3) [1, 1, 1, 1, 1, 0, 1, 0] (retK tis F3 Tryz.f3 (List.length ([] : List Blk)) k) (Ex.ret) (S.SteadyAsks_x0_0 c load r m (z0) (z1) (z2)) = oK (S.SteadyAsks_gk c load r m k) (S.SteadyAsks_a0_0 fu c load r m z0 z1 z2) :=
  (show contOf (C_SteadyAsks fu c load r m) G9s (bodyOf Tryz.f3) [1, 1, 1, 1, 1, 0, 1, 0] (retK tis F3 Tryz.f3 (List.length ([] : List Blk)) k) (Ex.ret) (S.SteadyAsks_x0_0 c load r m (z0) (z1) (z2)) =
  ((S.SteadyAsks_gk c load r m k) (false)) from by kernel_rfl).trans rfl
noncomputable def S.SteadyAsks_L {R : Type} (fu : Nat) (c : Cf) (load r m : Int) (k : AVal → List Blk → Option R) : Option R := fnEval tis F3 fu G9s Tryz.f3 [.agg (cfA c), .int .i64 load, .int .i64 r, .int .i64 m] [] k
noncomputable def S.SteadyAsks (fu : Nat) (c : Cf) (load r m : Int) : Option (Bool) :=
  bif decide (300 < m) then
   (optK (S.q_run 100000 c load r (Int.tmod m 301)) fun o3 =>
   (Sum.elim (fun o4 : Unit =>
    (optK (S.q_rsteady 100000 c load r (Int.tmod m 301)) fun o5 =>
   (Sum.elim (fun o6 : Unit =>
    optK (S.SteadyAsks_l0 fu c load r m fu (0) (0) (0) (c) ([]) ([])) (Sum.elim (fun z : Cf × List (Int × Int × Int × Int × Bool × Int) × List (Int × Int × Int × Int × Bool × Int) => S.SteadyAsks_a0_0 fu c load r m (z.1) (z.2.1) (z.2.2)) (fun z : Nat × Nat × Int × Bool × Cf × List (Int × Int × Int × Int × Bool × Int) × List (Int × Int × Int × Int × Bool × Int) => S.SteadyAsks_a0_1 fu c load r m (z.1) (z.2.1) (z.2.2.1) (z.2.2.2.1) (z.2.2.2.2.1) (z.2.2.2.2.2.1) (z.2.2.2.2.2.2)))) (fun o6 : Nat × List (Int × Int × Int × Int × Bool × Int) =>
    bif !decide (0 = ((o6.1 : Nat) : Int)) then
   some (false)
 else
   optK (S.SteadyAsks_l0 fu c load r m fu (0) (o6.1) (0) (c) ([]) (o6.2)) (Sum.elim (fun z : Cf × List (Int × Int × Int × Int × Bool × Int) × List (Int × Int × Int × Int × Bool × Int) => S.SteadyAsks_a0_0 fu c load r m (z.1) (z.2.1) (z.2.2)) (fun z : Nat × Nat × Int × Bool × Cf × List (Int × Int × Int × Int × Bool × Int) × List (Int × Int × Int × Int × Bool × Int) => S.SteadyAsks_a0_1 fu c load r m (z.1) (z.2.1) (z.2.2.1) (z.2.2.2.1) (z.2.2.2.2.1) (z.2.2.2.2.2.1) (z.2.2.2.2.2.2)))) (o5)))) (fun o4 : Nat × List (Int × Int × Int × Int × Bool × Int) =>
    (optK (S.q_rsteady 100000 c load r (Int.tmod m 301)) fun o5 =>
   (Sum.elim (fun o6 : Unit =>
    bif !decide (((o4.1 : Nat) : Int) = 0) then
   some (false)
 else
   optK (S.SteadyAsks_l0 fu c load r m fu (o4.1) (0) (0) (c) (o4.2) ([])) (Sum.elim (fun z : Cf × List (Int × Int × Int × Int × Bool × Int) × List (Int × Int × Int × Int × Bool × Int) => S.SteadyAsks_a0_0 fu c load r m (z.1) (z.2.1) (z.2.2)) (fun z : Nat × Nat × Int × Bool × Cf × List (Int × Int × Int × Int × Bool × Int) × List (Int × Int × Int × Int × Bool × Int) => S.SteadyAsks_a0_1 fu c load r m (z.1) (z.2.1) (z.2.2.1) (z.2.2.2.1) (z.2.2.2.2.1) (z.2.2.2.2.2.1) (z.2.2.2.2.2.2)))) (fun o6 : Nat × List (Int × Int × Int × Int × Bool × Int) =>
    bif !decide (((o4.1 : Nat) : Int) = ((o6.1 : Nat) : Int)) then
   some (false)
 else
   optK (S.SteadyAsks_l0 fu c load r m fu (o4.1) (o6.1) (0) (c) (o4.2) (o6.2)) (Sum.elim (fun z : Cf × List (Int × Int × Int × Int × Bool × Int) × List (Int × Int × Int × Int × Bool × Int) => S.SteadyAsks_a0_0 fu c load r m (z.1) (z.2.1) (z.2.2)) (fun z : Nat × Nat × Int × Bool × Cf × List (Int × Int × Int × Int × Bool × Int) × List (Int × Int × Int × Int × Bool × Int) => S.SteadyAsks_a0_1 fu c load r m (z.1) (z.2.1) (z.2.2.1) (z.2.2.2.1) (z.2.2.2.2.1) (z.2.2.2.2.2.1) (z.2.2.2.2.2.2)))) (o5)))) (o3)))
 else
   (optK (S.q_run 100000 c load r m) fun o3 =>
   (Sum.elim (fun o4 : Unit =>
    (optK (S.q_rsteady 100000 c load r m) fun o5 =>
   (Sum.elim (fun o6 : Unit =>
    optK (S.SteadyAsks_l0 fu c load r m fu (0) (0) (0) (c) ([]) ([])) (Sum.elim (fun z : Cf × List (Int × Int × Int × Int × Bool × Int) × List (Int × Int × Int × Int × Bool × Int) => S.SteadyAsks_a0_0 fu c load r m (z.1) (z.2.1) (z.2.2)) (fun z : Nat × Nat × Int × Bool × Cf × List (Int × Int × Int × Int × Bool × Int) × List (Int × Int × Int × Int × Bool × Int) => S.SteadyAsks_a0_1 fu c load r m (z.1) (z.2.1) (z.2.2.1) (z.2.2.2.1) (z.2.2.2.2.1) (z.2.2.2.2.2.1) (z.2.2.2.2.2.2)))) (fun o6 : Nat × List (Int × Int × Int × Int × Bool × Int) =>
    bif !decide (0 = ((o6.1 : Nat) : Int)) then
   some (false)
 else
   optK (S.SteadyAsks_l0 fu c load r m fu (0) (o6.1) (0) (c) ([]) (o6.2)) (Sum.elim (fun z : Cf × List (Int × Int × Int × Int × Bool × Int) × List (Int × Int × Int × Int × Bool × Int) => S.SteadyAsks_a0_0 fu c load r m (z.1) (z.2.1) (z.2.2)) (fun z : Nat × Nat × Int × Bool × Cf × List (Int × Int × Int × Int × Bool × Int) × List (Int × Int × Int × Int × Bool × Int) => S.SteadyAsks_a0_1 fu c load r m (z.1) (z.2.1) (z.2.2.1) (z.2.2.2.1) (z.2.2.2.2.1) (z.2.2.2.2.2.1) (z.2.2.2.2.2.2)))) (o5)))) (fun o4 : Nat × List (Int × Int × Int × Int × Bool × Int) =>
    (optK (S.q_rsteady 100000 c load r m) fun o5 =>
   (Sum.elim (fun o6 : Unit =>
    bif !decide (((o4.1 : Nat) : Int) = 0) then
   some (false)
 else
   optK (S.SteadyAsks_l0 fu c load r m fu (o4.1) (0) (0) (c) (o4.2) ([])) (Sum.elim (fun z : Cf × List (Int × Int × Int × Int × Bool × Int) × List (Int × Int × Int × Int × Bool × Int) => S.SteadyAsks_a0_0 fu c load r m (z.1) (z.2.1) (z.2.2)) (fun z : Nat × Nat × Int × Bool × Cf × List (Int × Int × Int × Int × Bool × Int) × List (Int × Int × Int × Int × Bool × Int) => S.SteadyAsks_a0_1 fu c load r m (z.1) (z.2.1) (z.2.2.1) (z.2.2.2.1) (z.2.2.2.2.1) (z.2.2.2.2.2.1) (z.2.2.2.2.2.2)))) (fun o6 : Nat × List (Int × Int × Int × Int × Bool × Int) =>
    bif !decide (((o4.1 : Nat) : Int) = ((o6.1 : Nat) : Int)) then
   some (false)
 else
   optK (S.SteadyAsks_l0 fu c load r m fu (o4.1) (o6.1) (0) (c) (o4.2) (o6.2)) (Sum.elim (fun z : Cf × List (Int × Int × Int × Int × Bool × Int) × List (Int × Int × Int × Int × Bool × Int) => S.SteadyAsks_a0_0 fu c load r m (z.1) (z.2.1) (z.2.2)) (fun z : Nat × Nat × Int × Bool × Cf × List (Int × Int × Int × Int × Bool × Int) × List (Int × Int × Int × Int × Bool × Int) => S.SteadyAsks_a0_1 fu c load r m (z.1) (z.2.1) (z.2.2.1) (z.2.2.2.1) (z.2.2.2.2.1) (z.2.2.2.2.2.1) (z.2.2.2.2.2.2)))) (o5)))) (o3)))
theorem S.SteadyAsks_v {R : Type} (fu : Nat) (c : Cf) (load r m : Int) (k : AVal → List Blk → Option R) : S.SteadyAsks_L fu c load r m k = oK (S.SteadyAsks_gk c load r m k) (S.SteadyAsks fu c load r m) :=
  (show S.SteadyAsks_L fu c load r m k =
  (bif decide (300 < m) then
   (optK (S.q_run 100000 c load r (Int.tmod m 301)) fun o3 =>
   (Sum.elim (fun o4 : Unit =>
    (optK (S.q_rsteady 100000 c load r (Int.tmod m 301)) fun o5 =>
   (Sum.elim (fun o6 : Unit =>
    loopRun (C_SteadyAsks fu c load r m) G9s S.SteadyAsks_b0 fu (S.SteadyAsks_s0 c load r m (0) (0) (0) (c) ([]) ([])) (contOf (C_SteadyAsks fu c load r m) G9s (bodyOf Tryz.f3) [1, 1, 1, 1, 1, 0, 1, 0] (retK tis F3 Tryz.f3 (List.length ([] : List Blk)) k))) (fun o6 : Nat × List (Int × Int × Int × Int × Bool × Int) =>
    bif !decide (0 = ((o6.1 : Nat) : Int)) then
   (S.SteadyAsks_gk c load r m k) (false)
 else
   loopRun (C_SteadyAsks fu c load r m) G9s S.SteadyAsks_b0 fu (S.SteadyAsks_s0 c load r m (0) (o6.1) (0) (c) ([]) (o6.2)) (contOf (C_SteadyAsks fu c load r m) G9s (bodyOf Tryz.f3) [1, 1, 1, 1, 1, 0, 1, 0] (retK tis F3 Tryz.f3 (List.length ([] : List Blk)) k))) (o5)))) (fun o4 : Nat × List (Int × Int × Int × Int × Bool × Int) =>
    (optK (S.q_rsteady 100000 c load r (Int.tmod m 301)) fun o5 =>
   (Sum.elim (fun o6 : Unit =>
    bif !decide (((o4.1 : Nat) : Int) = 0) then
   (S.SteadyAsks_gk c load r m k) (false)
 else
   loopRun (C_SteadyAsks fu c load r m) G9s S.SteadyAsks_b0 fu (S.SteadyAsks_s0 c load r m (o4.1) (0) (0) (c) (o4.2) ([])) (contOf (C_SteadyAsks fu c load r m) G9s (bodyOf Tryz.f3) [1, 1, 1, 1, 1, 0, 1, 0] (retK tis F3 Tryz.f3 (List.length ([] : List Blk)) k))) (fun o6 : Nat × List (Int × Int × Int × Int × Bool × Int) =>
    bif !decide (((o4.1 : Nat) : Int) = ((o6.1 : Nat) : Int)) then
   (S.SteadyAsks_gk c load r m k) (false)
 else
   loopRun (C_SteadyAsks fu c load r m) G9s S.SteadyAsks_b0 fu (S.SteadyAsks_s0 c load r m (o4.1) (o6.1) (0) (c) (o4.2) (o6.2)) (contOf (C_SteadyAsks fu c load r m) G9s (bodyOf Tryz.f3) [1, 1, 1, 1, 1, 0, 1, 0] (retK tis F3 Tryz.f3 (List.length ([] : List Blk)) k))) (o5)))) (o3)))
 else
   (optK (S.q_run 100000 c load r m) fun o3 =>
   (Sum.elim (fun o4 : Unit =>
    (optK (S.q_rsteady 100000 c load r m) fun o5 =>
   (Sum.elim (fun o6 : Unit =>
    loopRun (C_SteadyAsks fu c load r m) G9s S.SteadyAsks_b0 fu (S.SteadyAsks_s0 c load r m (0) (0) (0) (c) ([]) ([])) (contOf (C_SteadyAsks fu c load r m) G9s (bodyOf Tryz.f3) [1, 1, 1, 1, 1, 0, 1, 0] (retK tis F3 Tryz.f3 (List.length ([] : List Blk)) k))) (fun o6 : Nat × List (Int × Int × Int × Int × Bool × Int) =>
    bif !decide (0 = ((o6.1 : Nat) : Int)) then
   (S.SteadyAsks_gk c load r m k) (false)
 else
   loopRun (C_SteadyAsks fu c load r m) G9s S.SteadyAsks_b0 fu (S.SteadyAsks_s0 c load r m (0) (o6.1) (0) (c) ([]) (o6.2)) (contOf (C_SteadyAsks fu c load r m) G9s (bodyOf Tryz.f3) [1, 1, 1, 1, 1, 0, 1, 0] (retK tis F3 Tryz.f3 (List.length ([] : List Blk)) k))) (o5)))) (fun o4 : Nat × List (Int × Int × Int × Int × Bool × Int) =>
    (optK (S.q_rsteady 100000 c load r m) fun o5 =>
   (Sum.elim (fun o6 : Unit =>
    bif !decide (((o4.1 : Nat) : Int) = 0) then
   (S.SteadyAsks_gk c load r m k) (false)
 else
   loopRun (C_SteadyAsks fu c load r m) G9s S.SteadyAsks_b0 fu (S.SteadyAsks_s0 c load r m (o4.1) (0) (0) (c) (o4.2) ([])) (contOf (C_SteadyAsks fu c load r m) G9s (bodyOf Tryz.f3) [1, 1, 1, 1, 1, 0, 1, 0] (retK tis F3 Tryz.f3 (List.length ([] : List Blk)) k))) (fun o6 : Nat × List (Int × Int × Int × Int × Bool × Int) =>
    bif !decide (((o4.1 : Nat) : Int) = ((o6.1 : Nat) : Int)) then
   (S.SteadyAsks_gk c load r m k) (false)
 else
   loopRun (C_SteadyAsks fu c load r m) G9s S.SteadyAsks_b0 fu (S.SteadyAsks_s0 c load r m (o4.1) (o6.1) (0) (c) (o4.2) (o6.2)) (contOf (C_SteadyAsks fu c load r m) G9s (bodyOf Tryz.f3) [1, 1, 1, 1, 1, 0, 1, 0] (retK tis F3 Tryz.f3 (List.length ([] : List Blk)) k))) (o5)))) (o3)))) from by kernel_rfl).trans (by
      unfold S.SteadyAsks
      refine bif_lift (f := (oK (S.SteadyAsks_gk c load r m k))) ?_ ?_
      · 
        refine opt_lift fun o3 => ?_
        refine sumF_lift (f := (oK (S.SteadyAsks_gk c load r m k))) (fun o4 => ?_) (fun o4 => ?_) _
        · 
          refine opt_lift fun o5 => ?_
          refine sumF_lift (f := (oK (S.SteadyAsks_gk c load r m k))) (fun o6 => ?_) (fun o6 => ?_) _
          · 
            exact (arr_lift (S.SteadyAsks_l0_v fu c load r m (contOf (C_SteadyAsks fu c load r m) G9s (bodyOf Tryz.f3) [1, 1, 1, 1, 1, 0, 1, 0] (retK tis F3 Tryz.f3 (List.length ([] : List Blk)) k)) fu (0) (0) (0) (c) ([]) ([])) ((sum_lift (fun z => S.SteadyAsks_a0_0_v fu c load r m (z.1) (z.2.1) (z.2.2) k) (fun z => S.SteadyAsks_a0_1_v fu c load r m (z.1) (z.2.1) (z.2.2.1) (z.2.2.2.1) (z.2.2.2.2.1) (z.2.2.2.2.2.1) (z.2.2.2.2.2.2) k))))
          · 
            refine bif_lift (f := (oK (S.SteadyAsks_gk c load r m k))) ?_ ?_
            · 
              exact rfl
            · 
              exact (arr_lift (S.SteadyAsks_l0_v fu c load r m (contOf (C_SteadyAsks fu c load r m) G9s (bodyOf Tryz.f3) [1, 1, 1, 1, 1, 0, 1, 0] (retK tis F3 Tryz.f3 (List.length ([] : List Blk)) k)) fu (0) (o6.1) (0) (c) ([]) (o6.2)) ((sum_lift (fun z => S.SteadyAsks_a0_0_v fu c load r m (z.1) (z.2.1) (z.2.2) k) (fun z => S.SteadyAsks_a0_1_v fu c load r m (z.1) (z.2.1) (z.2.2.1) (z.2.2.2.1) (z.2.2.2.2.1) (z.2.2.2.2.2.1) (z.2.2.2.2.2.2) k))))
        · 
          refine opt_lift fun o5 => ?_
          refine sumF_lift (f := (oK (S.SteadyAsks_gk c load r m k))) (fun o6 => ?_) (fun o6 => ?_) _
          · 
            refine bif_lift (f := (oK (S.SteadyAsks_gk c load r m k))) ?_ ?_
            · 
              exact rfl
            · 
              exact (arr_lift (S.SteadyAsks_l0_v fu c load r m (contOf (C_SteadyAsks fu c load r m) G9s (bodyOf Tryz.f3) [1, 1, 1, 1, 1, 0, 1, 0] (retK tis F3 Tryz.f3 (List.length ([] : List Blk)) k)) fu (o4.1) (0) (0) (c) (o4.2) ([])) ((sum_lift (fun z => S.SteadyAsks_a0_0_v fu c load r m (z.1) (z.2.1) (z.2.2) k) (fun z => S.SteadyAsks_a0_1_v fu c load r m (z.1) (z.2.1) (z.2.2.1) (z.2.2.2.1) (z.2.2.2.2.1) (z.2.2.2.2.2.1) (z.2.2.2.2.2.2) k))))
          · 
            refine bif_lift (f := (oK (S.SteadyAsks_gk c load r m k))) ?_ ?_
            · 
              exact rfl
            · 
              exact (arr_lift (S.SteadyAsks_l0_v fu c load r m (contOf (C_SteadyAsks fu c load r m) G9s (bodyOf Tryz.f3) [1, 1, 1, 1, 1, 0, 1, 0] (retK tis F3 Tryz.f3 (List.length ([] : List Blk)) k)) fu (o4.1) (o6.1) (0) (c) (o4.2) (o6.2)) ((sum_lift (fun z => S.SteadyAsks_a0_0_v fu c load r m (z.1) (z.2.1) (z.2.2) k) (fun z => S.SteadyAsks_a0_1_v fu c load r m (z.1) (z.2.1) (z.2.2.1) (z.2.2.2.1) (z.2.2.2.2.1) (z.2.2.2.2.2.1) (z.2.2.2.2.2.2) k))))
      · 
        refine opt_lift fun o3 => ?_
        refine sumF_lift (f := (oK (S.SteadyAsks_gk c load r m k))) (fun o4 => ?_) (fun o4 => ?_) _
        · 
          refine opt_lift fun o5 => ?_
          refine sumF_lift (f := (oK (S.SteadyAsks_gk c load r m k))) (fun o6 => ?_) (fun o6 => ?_) _
          · 
            exact (arr_lift (S.SteadyAsks_l0_v fu c load r m (contOf (C_SteadyAsks fu c load r m) G9s (bodyOf Tryz.f3) [1, 1, 1, 1, 1, 0, 1, 0] (retK tis F3 Tryz.f3 (List.length ([] : List Blk)) k)) fu (0) (0) (0) (c) ([]) ([])) ((sum_lift (fun z => S.SteadyAsks_a0_0_v fu c load r m (z.1) (z.2.1) (z.2.2) k) (fun z => S.SteadyAsks_a0_1_v fu c load r m (z.1) (z.2.1) (z.2.2.1) (z.2.2.2.1) (z.2.2.2.2.1) (z.2.2.2.2.2.1) (z.2.2.2.2.2.2) k))))
          · 
            refine bif_lift (f := (oK (S.SteadyAsks_gk c load r m k))) ?_ ?_
            · 
              exact rfl
            · 
              exact (arr_lift (S.SteadyAsks_l0_v fu c load r m (contOf (C_SteadyAsks fu c load r m) G9s (bodyOf Tryz.f3) [1, 1, 1, 1, 1, 0, 1, 0] (retK tis F3 Tryz.f3 (List.length ([] : List Blk)) k)) fu (0) (o6.1) (0) (c) ([]) (o6.2)) ((sum_lift (fun z => S.SteadyAsks_a0_0_v fu c load r m (z.1) (z.2.1) (z.2.2) k) (fun z => S.SteadyAsks_a0_1_v fu c load r m (z.1) (z.2.1) (z.2.2.1) (z.2.2.2.1) (z.2.2.2.2.1) (z.2.2.2.2.2.1) (z.2.2.2.2.2.2) k))))
        · 
          refine opt_lift fun o5 => ?_
          refine sumF_lift (f := (oK (S.SteadyAsks_gk c load r m k))) (fun o6 => ?_) (fun o6 => ?_) _
          · 
            refine bif_lift (f := (oK (S.SteadyAsks_gk c load r m k))) ?_ ?_
            · 
              exact rfl
            · 
              exact (arr_lift (S.SteadyAsks_l0_v fu c load r m (contOf (C_SteadyAsks fu c load r m) G9s (bodyOf Tryz.f3) [1, 1, 1, 1, 1, 0, 1, 0] (retK tis F3 Tryz.f3 (List.length ([] : List Blk)) k)) fu (o4.1) (0) (0) (c) (o4.2) ([])) ((sum_lift (fun z => S.SteadyAsks_a0_0_v fu c load r m (z.1) (z.2.1) (z.2.2) k) (fun z => S.SteadyAsks_a0_1_v fu c load r m (z.1) (z.2.1) (z.2.2.1) (z.2.2.2.1) (z.2.2.2.2.1) (z.2.2.2.2.2.1) (z.2.2.2.2.2.2) k))))
          · 
            refine bif_lift (f := (oK (S.SteadyAsks_gk c load r m k))) ?_ ?_
            · 
              exact rfl
            · 
              exact (arr_lift (S.SteadyAsks_l0_v fu c load r m (contOf (C_SteadyAsks fu c load r m) G9s (bodyOf Tryz.f3) [1, 1, 1, 1, 1, 0, 1, 0] (retK tis F3 Tryz.f3 (List.length ([] : List Blk)) k)) fu (o4.1) (o6.1) (0) (c) (o4.2) (o6.2)) ((sum_lift (fun z => S.SteadyAsks_a0_0_v fu c load r m (z.1) (z.2.1) (z.2.2) k) (fun z => S.SteadyAsks_a0_1_v fu c load r m (z.1) (z.2.1) (z.2.2.1) (z.2.2.2.1) (z.2.2.2.2.1) (z.2.2.2.2.2.1) (z.2.2.2.2.2.2) k))))
      )
noncomputable def H3 : Hnd := fun R args σ k => match args, σ with
  | [.agg [.int .i64 target_, .int .i64 util_, .int .i64 stable_, .int .i64 panic_, .int .i64 grain_, .int .i64 threshold_, .int .i64 up_, .int .i64 down_, .int .i64 min_, .int .i64 max_, .int .i64 initial_, .int .i64 grace_, .int .i64 delay_, .int .i64 burst_, .int .i64 limit_, .int .i64 queue_, .int .i64 timeout_, .int .i64 ready_, .int .i64 subset_, .int .i64 sample_], .int .i64 load, .int .i64 r, .int .i64 m], [] => oK (fun v : Bool => k (.bool v) []) (S.SteadyAsks 100000 ⟨target_, util_, stable_, panic_, grain_, threshold_, up_, down_, min_, max_, initial_, grace_, delay_, burst_, limit_, queue_, timeout_, ready_, subset_, sample_⟩ load r m)
  | _, _ => none
theorem H3_ok : HndOk Tryz.prog 3 H3 := hnd_ok tis tisOk mixOk G9s_ok F3 Tryz.func3 rfl (by
  intro R args σ k r h
  unfold H3 at h
  split at h
  · rename_i target_ util_ stable_ panic_ grain_ threshold_ up_ down_ min_ max_ initial_ grace_ delay_ burst_ limit_ queue_ timeout_ ready_ subset_ sample_ load r m; exact ⟨100000, (S.SteadyAsks_v 100000 ⟨target_, util_, stable_, panic_, grain_, threshold_, up_, down_, min_, max_, initial_, grace_, delay_, burst_, limit_, queue_, timeout_, ready_, subset_, sample_⟩ load r m _).trans h⟩
  · cases h)
noncomputable def G3 : Env := Env.add 3 H3 G9s
theorem G3_ok : EnvOk Tryz.prog G3 := envAdd_ok H3_ok G9s_ok
end Go.Proofs.YtdgipcjigbagfaaGreat.AB
