/- SteadyFalls, as a plain function. -/
import Derived.Test.YtdgipcjigbagfaaStold26
namespace Go.Proofs.Ytdgipcjigbagfaa.AB
set_option linter.unusedVariables false

/-! spinnakerlaw26.SteadyFalls -/
def F6 : FCfg := ⟨keepAt [(0, [0, 1]), (1, [0, 1, 5]), (2, [5, 6, 7]), (3, [6, 7, 8]), (4, [6, 7, 8, 27]), (5, [4]), (6, [6, 8, 9]), (7, [6, 8, 9, 10]), (8, [6, 8, 9, 10, 32]), (9, [6, 8, 9, 10]), (10, [6, 8, 10, 69]), (11, [4]), (12, [6, 8, 9, 10]), (13, [4])], loopAt [(8, [6, 8, 9, 10], [])], []⟩
noncomputable def C_SteadyFalls (fu : Nat) (a b : Int) : Cfg := Cfg.of tis F6 fu (List.length ([] : List Blk)) Try.f6.ntmps
noncomputable def S.SteadyFalls_b0 : Code := codeAt (bodyOf Try.f6) [1, 1, 1, 1, 1, 1, 0, 1, 0, 0]
noncomputable def S.SteadyFalls_s0 (a b : Int) (y0 : Nat) (y1 : Int) (y2 : Int) (y3 : List (Int × Int × Int × Int × Bool × Int)) : St := ⟨[(6, (.int .i64 (Go.IntKind.wrap .i64 (Int.tmod (Go.IntKind.wrap .u64 a) 70001)))), (8, (.slice 6 0 (0) (y0) none)), (9, (.int .i64 (y1))), (10, (.int .i64 (y2)))], [(.rows (Cd.pair (Cd.int .i64) (Cd.pair (Cd.int .i64) (Cd.pair (Cd.int .i64) (Cd.pair (Cd.int .i64) (Cd.pair Cd.bool (Cd.int .i64)))))) (y3) false)]⟩
noncomputable def S.SteadyFalls_x0_0 (a b : Int) (z0 : List (Int × Int × Int × Int × Bool × Int)) : St := ⟨[(4, (.bool (false)))], [(.rows (Cd.pair (Cd.int .i64) (Cd.pair (Cd.int .i64) (Cd.pair (Cd.int .i64) (Cd.pair (Cd.int .i64) (Cd.pair Cd.bool (Cd.int .i64)))))) (z0) false)]⟩
noncomputable def S.SteadyFalls_x0_1 (a b : Int) (z0 : Nat) (z1 : Int) (z2 : Int) (z3 : Bool) (z4 : List (Int × Int × Int × Int × Bool × Int)) : St := ⟨[(6, (.int .i64 (Go.IntKind.wrap .i64 (Int.tmod (Go.IntKind.wrap .u64 a) 70001)))), (8, (.slice 6 0 (0) (z0) none)), (9, (.int .i64 (z1))), (10, (.int .i64 (z2))), (32, (.bool (z3)))], [(.rows (Cd.pair (Cd.int .i64) (Cd.pair (Cd.int .i64) (Cd.pair (Cd.int .i64) (Cd.pair (Cd.int .i64) (Cd.pair Cd.bool (Cd.int .i64)))))) (z4) false)]⟩
noncomputable def S.SteadyFalls_g0 {R : Type} (a b : Int) (K : Ex → St → Option R) : ((List (Int × Int × Int × Int × Bool × Int)) ⊕ (Nat × Int × Int × Bool × List (Int × Int × Int × Int × Bool × Int))) → Option R := (Sum.elim (fun z : List (Int × Int × Int × Int × Bool × Int) => K (Ex.ret) (S.SteadyFalls_x0_0 a b (z))) (fun z : Nat × Int × Int × Bool × List (Int × Int × Int × Int × Bool × Int) => K (Ex.exit 0) (S.SteadyFalls_x0_1 a b (z.1) (z.2.1) (z.2.2.1) (z.2.2.2.1) (z.2.2.2.2))))
noncomputable def S.SteadyFalls_gk {R : Type} (a b : Int) (k : AVal → List Blk → Option R) : (Bool) → Option R := (fun v : Bool => k (.bool v) [])
theorem S.SteadyFalls_l0_k {R : Type} (fu : Nat) (a b : Int) (n : Nat) (K : Ex → St → Option R) (y0 : Nat) (y1 : Int) (y2 : Int) (y3 : List (Int × Int × Int × Int × Bool × Int)) : loopRun (C_SteadyFalls fu a b) G17s S.SteadyFalls_b0 (n + 1) (S.SteadyFalls_s0 a b (y0) (y1) (y2) (y3)) K =
  (bif decide (y2 < ((y0 : Nat) : Int)) then
   bif inB y2 y0 then
   (optK (y3[Int.toNat y2 + 0]?) fun o4 =>
   bif o4.2.2.2.2.1 then
   K (Ex.ret) (S.SteadyFalls_x0_0 a b (y3))
 else
   bif inB y2 y0 then
   (optK (y3[Int.toNat y2 + 0]?) fun o7 =>
   bif decide (y1 < o7.2.2.2.1) then
   K (Ex.ret) (S.SteadyFalls_x0_0 a b (y3))
 else
   bif inB y2 y0 then
   (optK (y3[Int.toNat y2 + 0]?) fun o10 =>
   bif decide (o10.2.2.2.1 < Go.IntKind.wrap .i64 (Int.tdiv y1 2)) then
   bif inB y2 y0 then
   (optK (y3[Int.toNat y2 + 0]?) fun o13 =>
   bif decide (o13.2.2.2.1 < Go.IntKind.wrap .i64 (Int.tdiv (Go.IntKind.wrap .i64 (Go.IntKind.wrap .i64 (Int.tmod (Go.IntKind.wrap .u64 a) 70001) + 6999)) 7000)) then
   K (Ex.ret) (S.SteadyFalls_x0_0 a b (y3))
 else
   bif inB y2 y0 then
   (optK (y3[Int.toNat y2 + 0]?) fun o16 =>
   loopRun (C_SteadyFalls fu a b) G17s S.SteadyFalls_b0 n (S.SteadyFalls_s0 a b (y0) (o16.2.2.2.1) (Go.IntKind.wrap .i64 (y2 + 1)) (y3)) K)
 else
   none)
 else
   none
 else
   bif inB y2 y0 then
   (optK (y3[Int.toNat y2 + 0]?) fun o13 =>
   loopRun (C_SteadyFalls fu a b) G17s S.SteadyFalls_b0 n (S.SteadyFalls_s0 a b (y0) (o13.2.2.2.1) (Go.IntKind.wrap .i64 (y2 + 1)) (y3)) K)
 else
   none)
 else
   none)
 else
   none)
 else
   none
 else
   K (Ex.exit 0) (S.SteadyFalls_x0_1 a b (y0) (y1) (y2) (decide (y2 < ((y0 : Nat) : Int))) (y3))) := by kernel_rfl
noncomputable def S.SteadyFalls_l0 (fu : Nat) (a b : Int) : Nat → (Nat) → (Int) → (Int) → (List (Int × Int × Int × Int × Bool × Int)) → Option ((List (Int × Int × Int × Int × Bool × Int)) ⊕ (Nat × Int × Int × Bool × List (Int × Int × Int × Int × Bool × Int)))
  | 0, _, _, _, _ => none
  | n + 1, y0, y1, y2, y3 =>
    bif decide (y2 < ((y0 : Nat) : Int)) then
   bif inB y2 y0 then
   (optK (y3[Int.toNat y2 + 0]?) fun o4 =>
   bif o4.2.2.2.2.1 then
   some (.inl (y3))
 else
   bif inB y2 y0 then
   (optK (y3[Int.toNat y2 + 0]?) fun o7 =>
   bif decide (y1 < o7.2.2.2.1) then
   some (.inl (y3))
 else
   bif inB y2 y0 then
   (optK (y3[Int.toNat y2 + 0]?) fun o10 =>
   bif decide (o10.2.2.2.1 < Go.IntKind.wrap .i64 (Int.tdiv y1 2)) then
   bif inB y2 y0 then
   (optK (y3[Int.toNat y2 + 0]?) fun o13 =>
   bif decide (o13.2.2.2.1 < Go.IntKind.wrap .i64 (Int.tdiv (Go.IntKind.wrap .i64 (Go.IntKind.wrap .i64 (Int.tmod (Go.IntKind.wrap .u64 a) 70001) + 6999)) 7000)) then
   some (.inl (y3))
 else
   bif inB y2 y0 then
   (optK (y3[Int.toNat y2 + 0]?) fun o16 =>
   (S.SteadyFalls_l0 fu a b n) (y0) (o16.2.2.2.1) (Go.IntKind.wrap .i64 (y2 + 1)) (y3))
 else
   none)
 else
   none
 else
   bif inB y2 y0 then
   (optK (y3[Int.toNat y2 + 0]?) fun o13 =>
   (S.SteadyFalls_l0 fu a b n) (y0) (o13.2.2.2.1) (Go.IntKind.wrap .i64 (y2 + 1)) (y3))
 else
   none)
 else
   none)
 else
   none)
 else
   none
 else
   some (.inr (y0, y1, y2, decide (y2 < ((y0 : Nat) : Int)), y3))
theorem S.SteadyFalls_l0_v {R : Type} (fu : Nat) (a b : Int) (K : Ex → St → Option R) : ∀ (n : Nat) (y0 : Nat) (y1 : Int) (y2 : Int) (y3 : List (Int × Int × Int × Int × Bool × Int)), loopRun (C_SteadyFalls fu a b) G17s S.SteadyFalls_b0 n (S.SteadyFalls_s0 a b (y0) (y1) (y2) (y3)) K = oK (β := (List (Int × Int × Int × Int × Bool × Int)) ⊕ (Nat × Int × Int × Bool × List (Int × Int × Int × Int × Bool × Int))) (S.SteadyFalls_g0 a b K) (S.SteadyFalls_l0 fu a b n y0 y1 y2 y3)
  | 0, _, _, _, _ => rfl
  | n + 1, y0, y1, y2, y3 => (S.SteadyFalls_l0_k fu a b n K y0 y1 y2 y3).trans (bif_lift (f := (oK (S.SteadyFalls_g0 a b K))) (bif_lift (f := (oK (S.SteadyFalls_g0 a b K))) (opt_lift fun o4 => (bif_lift (f := (oK (S.SteadyFalls_g0 a b K))) rfl (bif_lift (f := (oK (S.SteadyFalls_g0 a b K))) (opt_lift fun o7 => (bif_lift (f := (oK (S.SteadyFalls_g0 a b K))) rfl (bif_lift (f := (oK (S.SteadyFalls_g0 a b K))) (opt_lift fun o10 => (bif_lift (f := (oK (S.SteadyFalls_g0 a b K))) (bif_lift (f := (oK (S.SteadyFalls_g0 a b K))) (opt_lift fun o13 => (bif_lift (f := (oK (S.SteadyFalls_g0 a b K))) rfl (bif_lift (f := (oK (S.SteadyFalls_g0 a b K))) (opt_lift fun o16 => (S.SteadyFalls_l0_v fu a b K n (y0) (o16.2.2.2.1) (Go.IntKind.wrap .i64 (y2 + 1)) (y3))) rfl))) rfl) (bif_lift (f := (oK (S.SteadyFalls_g0 a b K))) (opt_lift fun o13 => (S.SteadyFalls_l0_v fu a b K n (y0) (o13.2.2.2.1) (Go.IntKind.wrap .i64 (y2 + 1)) (y3))) rfl))) rfl))) rfl))) rfl) rfl)
theorem S.SteadyFalls_a0_1_k {R : Type} (fu : Nat) (a b : Int) (z0 : Nat) (z1 : Int) (z2 : Int) (z3 : Bool) (z4 : List (Int × Int × Int × Int × Bool × Int)) (k : AVal → List Blk → Option R) : contOf (C_SteadyFalls fu a b) G17s (bodyOf Try.f6) [1, 1, 1, 1, 1, 1, 0, 1, 0] (retK tis F6 Try.f6 (List.length ([] : List Blk)) k) (Ex.exit 0) (S.SteadyFalls_x0_1 a b (z0) (z1) (z2) (z3) (z4)) =
  ((optK (S.q_told26) fun o2 =>
   bif o2 then
   k (.bool (decide (z1 = Go.IntKind.wrap .i64 (Int.tdiv (Go.IntKind.wrap .i64 (Go.IntKind.wrap .i64 (Int.tmod (Go.IntKind.wrap .u64 a) 70001) + 6999)) 7000)))) ([])
 else
   k (.bool false) ([]))) := by kernel_rfl
noncomputable def S.SteadyFalls_a0_1 (fu : Nat) (a b : Int) (z0 : Nat) (z1 : Int) (z2 : Int) (z3 : Bool) (z4 : List (Int × Int × Int × Int × Bool × Int)) : Option (Bool) :=
  (optK (S.q_told26) fun o2 =>
   bif o2 then
   some (decide (z1 = Go.IntKind.wrap .i64 (Int.tdiv (Go.IntKind.wrap .i64 (Go.IntKind.wrap .i64 (Int.tmod (Go.IntKind.wrap .u64 a) 70001) + 6999)) 7000)))
 else
   some (false))
theorem S.SteadyFalls_a0_1_v {R : Type} (fu : Nat) (a b : Int) (z0 : Nat) (z1 : Int) (z2 : Int) (z3 : Bool) (z4 : List (Int × Int × Int × Int × Bool × Int)) (k : AVal → List Blk → Option R) : contOf (C_SteadyFalls fu a b) G17s (bodyOf Try.f6) [1, 1, 1, 1, 1, 1, 0, 1, 0] (retK tis F6 Try.f6 (List.length ([] : List Blk)) k) (Ex.exit 0) (S.SteadyFalls_x0_1 a b (z0) (z1) (z2) (z3) (z4)) = oK (S.SteadyFalls_gk a b k) (S.SteadyFalls_a0_1 fu a b z0 z1 z2 z3 z4) :=
  (S.SteadyFalls_a0_1_k fu a b z0 z1 z2 z3 z4 k).trans (opt_lift fun o2 => (bif_lift (f := (oK (S.SteadyFalls_gk a b k))) rfl rfl))
theorem S.SteadyFalls_a0_0_k {R : Type} (fu : Nat) (a b : Int) (z0 : List (Int × Int × Int × Int × Bool × Int)) (k : AVal → List Blk → Option R) : contOf (C_SteadyFalls fu a b) G17s (bodyOf Try.f6) [1, 1, 1, 1, 1, 1, 0, 1, 0] (retK tis F6 Try.f6 (List.length ([] : List Blk)) k) (Ex.ret) (S.SteadyFalls_x0_0 a b (z0)) =
  (k (.bool false) ([])) := by kernel_rfl
noncomputable def S.SteadyFalls_a0_0 (fu : Nat) (a b : Int) (z0 : List (Int × Int × Int × Int × Bool × Int)) : Option (Bool) :=
  some (false)
theorem S.SteadyFalls_a0_0_v {R : Type} (fu : Nat) (a b : Int) (z0 : List (Int × Int × Int × Int × Bool × Int)) (k : AVal → List Blk → Option R) : contOf (C_SteadyFalls fu a b) G17s (bodyOf Try.f6) [1, 1, 1, 1, 1, 1, 0, 1, 0] (retK tis F6 Try.f6 (List.length ([] : List Blk)) k) (Ex.ret) (S.SteadyFalls_x0_0 a b (z0)) = oK (S.SteadyFalls_gk a b k) (S.SteadyFalls_a0_0 fu a b z0) :=
  (S.SteadyFalls_a0_0_k fu a b z0 k).trans rfl
theorem S.SteadyFalls_k {R : Type} (fu : Nat) (a b : Int) (k : AVal → List Blk → Option R) : fnEval tis F6 fu G17s Try.f6 [.int .i64 a, .int .i64 b] [] k =
  ((optK (S.q_run 100000 (Cf.mk 10000 700 60 6 1 2000 10000 2000 0 0 1 30 0 20000 10 100 60 3 0 0) (Go.IntKind.wrap .i64 (Int.tmod (Go.IntKind.wrap .u64 a) 70001)) (Go.IntKind.wrap .i64 (20 + Go.IntKind.wrap .i64 (Int.tmod (Go.IntKind.wrap .u64 b) 81))) 40) fun o2 =>
   (Sum.elim (fun o3 : Unit =>
    k (.bool false) ([])) (fun o3 : Nat × List (Int × Int × Int × Int × Bool × Int) =>
    bif !decide (((o3.1 : Nat) : Int) = 40) then
   k (.bool false) ([])
 else
   loopRun (C_SteadyFalls fu a b) G17s S.SteadyFalls_b0 fu (S.SteadyFalls_s0 a b (o3.1) (Go.IntKind.wrap .i64 (20 + Go.IntKind.wrap .i64 (Int.tmod (Go.IntKind.wrap .u64 b) 81))) (0) (o3.2)) (contOf (C_SteadyFalls fu a b) G17s (bodyOf Try.f6) [1, 1, 1, 1, 1, 1, 0, 1, 0] (retK tis F6 Try.f6 (List.length ([] : List Blk)) k))) (o2)))) := by kernel_rfl
noncomputable def S.SteadyFalls (fu : Nat) (a b : Int) : Option (Bool) :=
  (optK (S.q_run 100000 (Cf.mk 10000 700 60 6 1 2000 10000 2000 0 0 1 30 0 20000 10 100 60 3 0 0) (Go.IntKind.wrap .i64 (Int.tmod (Go.IntKind.wrap .u64 a) 70001)) (Go.IntKind.wrap .i64 (20 + Go.IntKind.wrap .i64 (Int.tmod (Go.IntKind.wrap .u64 b) 81))) 40) fun o2 =>
   (Sum.elim (fun o3 : Unit =>
    some (false)) (fun o3 : Nat × List (Int × Int × Int × Int × Bool × Int) =>
    bif !decide (((o3.1 : Nat) : Int) = 40) then
   some (false)
 else
   optK (S.SteadyFalls_l0 fu a b fu (o3.1) (Go.IntKind.wrap .i64 (20 + Go.IntKind.wrap .i64 (Int.tmod (Go.IntKind.wrap .u64 b) 81))) (0) (o3.2)) (Sum.elim (fun z : List (Int × Int × Int × Int × Bool × Int) => S.SteadyFalls_a0_0 fu a b (z)) (fun z : Nat × Int × Int × Bool × List (Int × Int × Int × Int × Bool × Int) => S.SteadyFalls_a0_1 fu a b (z.1) (z.2.1) (z.2.2.1) (z.2.2.2.1) (z.2.2.2.2)))) (o2)))
theorem S.SteadyFalls_v {R : Type} (fu : Nat) (a b : Int) (k : AVal → List Blk → Option R) : fnEval tis F6 fu G17s Try.f6 [.int .i64 a, .int .i64 b] [] k = oK (fun v : Bool => k (.bool v) []) (S.SteadyFalls fu a b) :=
  (S.SteadyFalls_k fu a b k).trans (by
      unfold S.SteadyFalls
      refine opt_lift fun o2 => ?_
      refine sumF_lift (f := (oK (S.SteadyFalls_gk a b k))) (fun o3 => ?_) (fun o3 => ?_) _
      · 
        exact rfl
      · 
        refine bif_lift (f := (oK (S.SteadyFalls_gk a b k))) ?_ ?_
        · 
          exact rfl
        · 
          exact (arr_lift (S.SteadyFalls_l0_v fu a b (contOf (C_SteadyFalls fu a b) G17s (bodyOf Try.f6) [1, 1, 1, 1, 1, 1, 0, 1, 0] (retK tis F6 Try.f6 (List.length ([] : List Blk)) k)) fu (o3.1) (Go.IntKind.wrap .i64 (20 + Go.IntKind.wrap .i64 (Int.tmod (Go.IntKind.wrap .u64 b) 81))) (0) (o3.2)) ((sum_lift (fun z => S.SteadyFalls_a0_0_v fu a b (z) k) (fun z => S.SteadyFalls_a0_1_v fu a b (z.1) (z.2.1) (z.2.2.1) (z.2.2.2.1) (z.2.2.2.2) k))))
      )
noncomputable def H6 : Hnd := fun R args σ k => match args, σ with
  | [.int .i64 a, .int .i64 b], [] => oK (fun v : Bool => k (.bool v) []) (S.SteadyFalls 100000 a b)
  | _, _ => none
theorem H6_ok : HndOk Try.prog 6 H6 := hnd_ok tis tisOk mixOk G17s_ok F6 Try.func6 rfl (by
  intro R args σ k r h
  unfold H6 at h
  split at h
  · rename_i a b; exact ⟨100000, (S.SteadyFalls_v 100000 a b _).trans h⟩
  · cases h)
noncomputable def G6 : Env := Env.add 6 H6 G17s
theorem G6_ok : EnvOk Try.prog G6 := envAdd_ok H6_ok G17s_ok
end Go.Proofs.Ytdgipcjigbagfaa.AB
