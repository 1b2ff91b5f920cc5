/- SteadyComes, as a plain function. -/
import Derived.Test.YtdgipcjigbagfaaStold26
namespace Go.Proofs.Ytdgipcjigbagfaa.AB
set_option linter.unusedVariables false
/-- the settings, brought into the law's bounds -/
noncomputable def DDc (c : Cf) : Cf := Cf.mk c.target c.util (Go.IntKind.wrap .i64 (6 + Go.IntKind.wrap .i64 (Int.tmod (Go.IntKind.wrap .u64 c.stable) 35))) (Go.IntKind.wrap .i64 (1 + Go.IntKind.wrap .i64 (Int.tmod (Go.IntKind.wrap .u64 c.panic) 6))) (Go.IntKind.wrap .i64 (1 + Go.IntKind.wrap .i64 (Int.tmod (Go.IntKind.wrap .u64 c.grain) (Go.IntKind.wrap .u64 (Go.IntKind.wrap .i64 (1 + Go.IntKind.wrap .i64 (Int.tmod (Go.IntKind.wrap .u64 c.panic) 6))))))) c.threshold (if 1100 > c.up then 1100 else c.up) (if 1100 > c.down then 1100 else c.down) c.min c.max c.initial c.grace (Go.IntKind.wrap .i64 (Int.tmod (Go.IntKind.wrap .u64 c.delay) 11)) c.burst c.limit c.queue c.timeout c.ready c.subset c.sample

/-! spinnakerlaw26.SteadyComes -/
def F3 : FCfg := ⟨keepAt [(0, [1, 2, 3]), (1, [1, 2, 3]), (2, [1, 2, 3]), (3, [1, 2, 3]), (4, [1, 2, 3]), (5, [1, 2, 3, 52]), (6, [6]), (7, [2, 3, 7]), (8, [2, 3, 7]), (9, [2, 3, 7, 8]), (10, [3, 7, 8, 9]), (11, [3, 7, 8, 9, 83]), (12, [6]), (13, [3, 7, 8, 9, 10]), (14, [3, 7, 9, 10, 11]), (15, [3, 7, 9, 10, 11, 100]), (16, [3, 7, 9, 10, 11]), (17, [3, 7, 9, 10, 11, 134]), (18, [6]), (19, [6])], loopAt [(15, [3, 7, 9, 10, 11], [⟨0, true, 9, [], 0, .pair (.int .i64) (.pair (.int .i64) (.pair (.int .i64) (.pair (.int .i64) (.pair (.bool) (.int .i64))))), none⟩])], []⟩
noncomputable def C_SteadyComes (fu : Nat) (c : Cf) (load r : Int) : Cfg := Cfg.of tis F3 fu (List.length ([] : List Blk)) Try.f3.ntmps
noncomputable def S.SteadyComes_b0 : Code := codeAt (bodyOf Try.f3) [1, 1, 1, 1, 1, 1, 1, 1, 1, 1, 1, 1, 0, 1, 0, 0]
noncomputable def S.SteadyComes_s0 (c : Cf) (load r : Int) (y0 : Nat) (y1 : Int) (y2 : Cf) (y3 : List (Int × Int × Int × Int × Bool × Int)) : St := ⟨[(3, (.ptr 0 (0) 0)), (7, (.int .i64 (if 1000000000 < Go.IntKind.wrap .i64 (Int.tmod (Go.IntKind.wrap .u64 load) (Go.IntKind.wrap .u64 (Go.IntKind.wrap .i64 (Go.IntKind.wrap .i64 (S.rper (DDc c) * S.q_rcmost (DDc c)) + 1)))) then 1000000000 else Go.IntKind.wrap .i64 (Int.tmod (Go.IntKind.wrap .u64 load) (Go.IntKind.wrap .u64 (Go.IntKind.wrap .i64 (Go.IntKind.wrap .i64 (S.rper (DDc c) * S.q_rcmost (DDc c)) + 1))))))), (9, (.slice 6 1 (0) (y0) none)), (10, (.int .i64 (if Go.IntKind.wrap .i64 (Int.tdiv (Go.IntKind.wrap .i64 (Go.IntKind.wrap .i64 ((if 1000000000 < Go.IntKind.wrap .i64 (Int.tmod (Go.IntKind.wrap .u64 load) (Go.IntKind.wrap .u64 (Go.IntKind.wrap .i64 (Go.IntKind.wrap .i64 (S.rper (DDc c) * S.q_rcmost (DDc c)) + 1)))) then 1000000000 else Go.IntKind.wrap .i64 (Int.tmod (Go.IntKind.wrap .u64 load) (Go.IntKind.wrap .u64 (Go.IntKind.wrap .i64 (Go.IntKind.wrap .i64 (S.rper (DDc c) * S.q_rcmost (DDc c)) + 1))))) + S.rper (DDc c)) - 1)) (S.rper (DDc c))) > c.min then Go.IntKind.wrap .i64 (Int.tdiv (Go.IntKind.wrap .i64 (Go.IntKind.wrap .i64 ((if 1000000000 < Go.IntKind.wrap .i64 (Int.tmod (Go.IntKind.wrap .u64 load) (Go.IntKind.wrap .u64 (Go.IntKind.wrap .i64 (Go.IntKind.wrap .i64 (S.rper (DDc c) * S.q_rcmost (DDc c)) + 1)))) then 1000000000 else Go.IntKind.wrap .i64 (Int.tmod (Go.IntKind.wrap .u64 load) (Go.IntKind.wrap .u64 (Go.IntKind.wrap .i64 (Go.IntKind.wrap .i64 (S.rper (DDc c) * S.q_rcmost (DDc c)) + 1))))) + S.rper (DDc c)) - 1)) (S.rper (DDc c))) else c.min))), (11, (.int .i64 (y1)))], [(.var [(.int .i64 (y2.target)), (.int .i64 (y2.util)), (.int .i64 (y2.stable)), (.int .i64 (y2.panic)), (.int .i64 (y2.grain)), (.int .i64 (y2.threshold)), (.int .i64 (y2.up)), (.int .i64 (y2.down)), (.int .i64 (y2.min)), (.int .i64 (y2.max)), (.int .i64 (y2.initial)), (.int .i64 (y2.grace)), (.int .i64 (y2.delay)), (.int .i64 (y2.burst)), (.int .i64 (y2.limit)), (.int .i64 (y2.queue)), (.int .i64 (y2.timeout)), (.int .i64 (y2.ready)), (.int .i64 (y2.subset)), (.int .i64 (y2.sample))]), (.rows (Cd.pair (Cd.int .i64) (Cd.pair (Cd.int .i64) (Cd.pair (Cd.int .i64) (Cd.pair (Cd.int .i64) (Cd.pair Cd.bool (Cd.int .i64)))))) (y3) false)]⟩
noncomputable def S.SteadyComes_x0_0 (c : Cf) (load r : Int) (z0 : Cf) (z1 : List (Int × Int × Int × Int × Bool × Int)) : St := ⟨[(6, (.bool (false)))], [(.var [(.int .i64 (z0.target)), (.int .i64 (z0.util)), (.int .i64 (z0.stable)), (.int .i64 (z0.panic)), (.int .i64 (z0.grain)), (.int .i64 (z0.threshold)), (.int .i64 (z0.up)), (.int .i64 (z0.down)), (.int .i64 (z0.min)), (.int .i64 (z0.max)), (.int .i64 (z0.initial)), (.int .i64 (z0.grace)), (.int .i64 (z0.delay)), (.int .i64 (z0.burst)), (.int .i64 (z0.limit)), (.int .i64 (z0.queue)), (.int .i64 (z0.timeout)), (.int .i64 (z0.ready)), (.int .i64 (z0.subset)), (.int .i64 (z0.sample))]), (.rows (Cd.pair (Cd.int .i64) (Cd.pair (Cd.int .i64) (Cd.pair (Cd.int .i64) (Cd.pair (Cd.int .i64) (Cd.pair Cd.bool (Cd.int .i64)))))) (z1) false)]⟩
noncomputable def S.SteadyComes_x0_1 (c : Cf) (load r : Int) (z0 : Nat) (z1 : Int) (z2 : Bool) (z3 : Cf) (z4 : List (Int × Int × Int × Int × Bool × Int)) : St := ⟨[(3, (.ptr 0 (0) 0)), (7, (.int .i64 (if 1000000000 < Go.IntKind.wrap .i64 (Int.tmod (Go.IntKind.wrap .u64 load) (Go.IntKind.wrap .u64 (Go.IntKind.wrap .i64 (Go.IntKind.wrap .i64 (S.rper (DDc c) * S.q_rcmost (DDc c)) + 1)))) then 1000000000 else Go.IntKind.wrap .i64 (Int.tmod (Go.IntKind.wrap .u64 load) (Go.IntKind.wrap .u64 (Go.IntKind.wrap .i64 (Go.IntKind.wrap .i64 (S.rper (DDc c) * S.q_rcmost (DDc c)) + 1))))))), (9, (.slice 6 1 (0) (z0) none)), (10, (.int .i64 (if Go.IntKind.wrap .i64 (Int.tdiv (Go.IntKind.wrap .i64 (Go.IntKind.wrap .i64 ((if 1000000000 < Go.IntKind.wrap .i64 (Int.tmod (Go.IntKind.wrap .u64 load) (Go.IntKind.wrap .u64 (Go.IntKind.wrap .i64 (Go.IntKind.wrap .i64 (S.rper (DDc c) * S.q_rcmost (DDc c)) + 1)))) then 1000000000 else Go.IntKind.wrap .i64 (Int.tmod (Go.IntKind.wrap .u64 load) (Go.IntKind.wrap .u64 (Go.IntKind.wrap .i64 (Go.IntKind.wrap .i64 (S.rper (DDc c) * S.q_rcmost (DDc c)) + 1))))) + S.rper (DDc c)) - 1)) (S.rper (DDc c))) > c.min then Go.IntKind.wrap .i64 (Int.tdiv (Go.IntKind.wrap .i64 (Go.IntKind.wrap .i64 ((if 1000000000 < Go.IntKind.wrap .i64 (Int.tmod (Go.IntKind.wrap .u64 load) (Go.IntKind.wrap .u64 (Go.IntKind.wrap .i64 (Go.IntKind.wrap .i64 (S.rper (DDc c) * S.q_rcmost (DDc c)) + 1)))) then 1000000000 else Go.IntKind.wrap .i64 (Int.tmod (Go.IntKind.wrap .u64 load) (Go.IntKind.wrap .u64 (Go.IntKind.wrap .i64 (Go.IntKind.wrap .i64 (S.rper (DDc c) * S.q_rcmost (DDc c)) + 1))))) + S.rper (DDc c)) - 1)) (S.rper (DDc c))) else c.min))), (11, (.int .i64 (z1))), (100, (.bool (z2)))], [(.var [(.int .i64 (z3.target)), (.int .i64 (z3.util)), (.int .i64 (z3.stable)), (.int .i64 (z3.panic)), (.int .i64 (z3.grain)), (.int .i64 (z3.threshold)), (.int .i64 (z3.up)), (.int .i64 (z3.down)), (.int .i64 (z3.min)), (.int .i64 (z3.max)), (.int .i64 (z3.initial)), (.int .i64 (z3.grace)), (.int .i64 (z3.delay)), (.int .i64 (z3.burst)), (.int .i64 (z3.limit)), (.int .i64 (z3.queue)), (.int .i64 (z3.timeout)), (.int .i64 (z3.ready)), (.int .i64 (z3.subset)), (.int .i64 (z3.sample))]), (.rows (Cd.pair (Cd.int .i64) (Cd.pair (Cd.int .i64) (Cd.pair (Cd.int .i64) (Cd.pair (Cd.int .i64) (Cd.pair Cd.bool (Cd.int .i64)))))) (z4) false)]⟩
noncomputable def S.SteadyComes_g0 {R : Type} (c : Cf) (load r : Int) (K : Ex → St → Option R) : ((Cf × List (Int × Int × Int × Int × Bool × Int)) ⊕ (Nat × Int × Bool × Cf × List (Int × Int × Int × Int × Bool × Int))) → Option R := (Sum.elim (fun z : Cf × List (Int × Int × Int × Int × Bool × Int) => K (Ex.ret) (S.SteadyComes_x0_0 c load r (z.1) (z.2))) (fun z : Nat × Int × Bool × Cf × List (Int × Int × Int × Int × Bool × Int) => K (Ex.exit 0) (S.SteadyComes_x0_1 c load r (z.1) (z.2.1) (z.2.2.1) (z.2.2.2.1) (z.2.2.2.2))))
noncomputable def S.SteadyComes_gk {R : Type} (c : Cf) (load r : Int) (k : AVal → List Blk → Option R) : (Bool) → Option R := (fun v : Bool => k (.bool v) [])
theorem S.SteadyComes_l0_k {R : Type} (fu : Nat) (c : Cf) (load r : Int) (n : Nat) (K : Ex → St → Option R) (y0 : Nat) (y1 : Int) (y2 : Cf) (y3 : List (Int × Int × Int × Int × Bool × Int)) : loopRun (C_SteadyComes fu c load r) G17s S.SteadyComes_b0 (n + 1) (S.SteadyComes_s0 c load r (y0) (y1) (y2) (y3)) K =
  (bif decide (y1 < ((y0 : Nat) : Int)) then
   bif inB y1 y0 then
   (optK (y3[Int.toNat y1 + 0]?) fun o4 =>
   bif o4.2.2.2.2.1 then
   K (Ex.ret) (S.SteadyComes_x0_0 c load r (y2) (y3))
 else
   bif inB y1 y0 then
   (optK (y3[Int.toNat y1 + 0]?) fun o7 =>
   bif !decide (o7.2.2.2.1 = if Go.IntKind.wrap .i64 (Int.tdiv (Go.IntKind.wrap .i64 (Go.IntKind.wrap .i64 ((if 1000000000 < Go.IntKind.wrap .i64 (Int.tmod (Go.IntKind.wrap .u64 load) (Go.IntKind.wrap .u64 (Go.IntKind.wrap .i64 (Go.IntKind.wrap .i64 (S.rper (DDc c) * S.q_rcmost (DDc c)) + 1)))) then 1000000000 else Go.IntKind.wrap .i64 (Int.tmod (Go.IntKind.wrap .u64 load) (Go.IntKind.wrap .u64 (Go.IntKind.wrap .i64 (Go.IntKind.wrap .i64 (S.rper (DDc c) * S.q_rcmost (DDc c)) + 1))))) + S.rper (DDc c)) - 1)) (S.rper (DDc c))) > c.min then Go.IntKind.wrap .i64 (Int.tdiv (Go.IntKind.wrap .i64 (Go.IntKind.wrap .i64 ((if 1000000000 < Go.IntKind.wrap .i64 (Int.tmod (Go.IntKind.wrap .u64 load) (Go.IntKind.wrap .u64 (Go.IntKind.wrap .i64 (Go.IntKind.wrap .i64 (S.rper (DDc c) * S.q_rcmost (DDc c)) + 1)))) then 1000000000 else Go.IntKind.wrap .i64 (Int.tmod (Go.IntKind.wrap .u64 load) (Go.IntKind.wrap .u64 (Go.IntKind.wrap .i64 (Go.IntKind.wrap .i64 (S.rper (DDc c) * S.q_rcmost (DDc c)) + 1))))) + S.rper (DDc c)) - 1)) (S.rper (DDc c))) else c.min) then
   K (Ex.ret) (S.SteadyComes_x0_0 c load r (y2) (y3))
 else
   bif inB y1 y0 then
   (optK (y3[Int.toNat y1 + 0]?) fun o10 =>
   bif !decide (o10.2.1 = if 1000000000 < Go.IntKind.wrap .i64 (Int.tmod (Go.IntKind.wrap .u64 load) (Go.IntKind.wrap .u64 (Go.IntKind.wrap .i64 (Go.IntKind.wrap .i64 (S.rper (DDc c) * S.q_rcmost (DDc c)) + 1)))) then 1000000000 else Go.IntKind.wrap .i64 (Int.tmod (Go.IntKind.wrap .u64 load) (Go.IntKind.wrap .u64 (Go.IntKind.wrap .i64 (Go.IntKind.wrap .i64 (S.rper (DDc c) * S.q_rcmost (DDc c)) + 1))))) then
   K (Ex.ret) (S.SteadyComes_x0_0 c load r (y2) (y3))
 else
   bif inB y1 y0 then
   (optK (y3[Int.toNat y1 + 0]?) fun o13 =>
   bif !decide (o13.2.2.1 = if 1000000000 < Go.IntKind.wrap .i64 (Int.tmod (Go.IntKind.wrap .u64 load) (Go.IntKind.wrap .u64 (Go.IntKind.wrap .i64 (Go.IntKind.wrap .i64 (S.rper (DDc c) * S.q_rcmost (DDc c)) + 1)))) then 1000000000 else Go.IntKind.wrap .i64 (Int.tmod (Go.IntKind.wrap .u64 load) (Go.IntKind.wrap .u64 (Go.IntKind.wrap .i64 (Go.IntKind.wrap .i64 (S.rper (DDc c) * S.q_rcmost (DDc c)) + 1))))) then
   K (Ex.ret) (S.SteadyComes_x0_0 c load r (y2) (y3))
 else
   loopRun (C_SteadyComes fu c load r) G17s S.SteadyComes_b0 n (S.SteadyComes_s0 c load r (y0) (Go.IntKind.wrap .i64 (y1 + 1)) (y2) (y3)) K)
 else
   none)
 else
   none)
 else
   none)
 else
   none
 else
   K (Ex.exit 0) (S.SteadyComes_x0_1 c load r (y0) (y1) (decide (y1 < ((y0 : Nat) : Int))) (y2) (y3))) := by kernel_rfl
noncomputable def S.SteadyComes_l0 (fu : Nat) (c : Cf) (load r : Int) : Nat → (Nat) → (Int) → (Cf) → (List (Int × Int × Int × Int × Bool × Int)) → Option ((Cf × List (Int × Int × Int × Int × Bool × Int)) ⊕ (Nat × Int × Bool × Cf × List (Int × Int × Int × Int × Bool × Int)))
  | 0, _, _, _, _ => none
  | n + 1, y0, y1, y2, y3 =>
    bif decide (y1 < ((y0 : Nat) : Int)) then
   bif inB y1 y0 then
   (optK (y3[Int.toNat y1 + 0]?) fun o4 =>
   bif o4.2.2.2.2.1 then
   some (.inl (y2, y3))
 else
   bif inB y1 y0 then
   (optK (y3[Int.toNat y1 + 0]?) fun o7 =>
   bif !decide (o7.2.2.2.1 = if Go.IntKind.wrap .i64 (Int.tdiv (Go.IntKind.wrap .i64 (Go.IntKind.wrap .i64 ((if 1000000000 < Go.IntKind.wrap .i64 (Int.tmod (Go.IntKind.wrap .u64 load) (Go.IntKind.wrap .u64 (Go.IntKind.wrap .i64 (Go.IntKind.wrap .i64 (S.rper (DDc c) * S.q_rcmost (DDc c)) + 1)))) then 1000000000 else Go.IntKind.wrap .i64 (Int.tmod (Go.IntKind.wrap .u64 load) (Go.IntKind.wrap .u64 (Go.IntKind.wrap .i64 (Go.IntKind.wrap .i64 (S.rper (DDc c) * S.q_rcmost (DDc c)) + 1))))) + S.rper (DDc c)) - 1)) (S.rper (DDc c))) > c.min then Go.IntKind.wrap .i64 (Int.tdiv (Go.IntKind.wrap .i64 (Go.IntKind.wrap .i64 ((if 1000000000 < Go.IntKind.wrap .i64 (Int.tmod (Go.IntKind.wrap .u64 load) (Go.IntKind.wrap .u64 (Go.IntKind.wrap .i64 (Go.IntKind.wrap .i64 (S.rper (DDc c) * S.q_rcmost (DDc c)) + 1)))) then 1000000000 else Go.IntKind.wrap .i64 (Int.tmod (Go.IntKind.wrap .u64 load) (Go.IntKind.wrap .u64 (Go.IntKind.wrap .i64 (Go.IntKind.wrap .i64 (S.rper (DDc c) * S.q_rcmost (DDc c)) + 1))))) + S.rper (DDc c)) - 1)) (S.rper (DDc c))) else c.min) then
   some (.inl (y2, y3))
 else
   bif inB y1 y0 then
   (optK (y3[Int.toNat y1 + 0]?) fun o10 =>
   bif !decide (o10.2.1 = if 1000000000 < Go.IntKind.wrap .i64 (Int.tmod (Go.IntKind.wrap .u64 load) (Go.IntKind.wrap .u64 (Go.IntKind.wrap .i64 (Go.IntKind.wrap .i64 (S.rper (DDc c) * S.q_rcmost (DDc c)) + 1)))) then 1000000000 else Go.IntKind.wrap .i64 (Int.tmod (Go.IntKind.wrap .u64 load) (Go.IntKind.wrap .u64 (Go.IntKind.wrap .i64 (Go.IntKind.wrap .i64 (S.rper (DDc c) * S.q_rcmost (DDc c)) + 1))))) then
   some (.inl (y2, y3))
 else
   bif inB y1 y0 then
   (optK (y3[Int.toNat y1 + 0]?) fun o13 =>
   bif !decide (o13.2.2.1 = if 1000000000 < Go.IntKind.wrap .i64 (Int.tmod (Go.IntKind.wrap .u64 load) (Go.IntKind.wrap .u64 (Go.IntKind.wrap .i64 (Go.IntKind.wrap .i64 (S.rper (DDc c) * S.q_rcmost (DDc c)) + 1)))) then 1000000000 else Go.IntKind.wrap .i64 (Int.tmod (Go.IntKind.wrap .u64 load) (Go.IntKind.wrap .u64 (Go.IntKind.wrap .i64 (Go.IntKind.wrap .i64 (S.rper (DDc c) * S.q_rcmost (DDc c)) + 1))))) then
   some (.inl (y2, y3))
 else
   (S.SteadyComes_l0 fu c load r n) (y0) (Go.IntKind.wrap .i64 (y1 + 1)) (y2) (y3))
 else
   none)
 else
   none)
 else
   none)
 else
   none
 else
   some (.inr (y0, y1, decide (y1 < ((y0 : Nat) : Int)), y2, y3))
theorem S.SteadyComes_l0_v {R : Type} (fu : Nat) (c : Cf) (load r : Int) (K : Ex → St → Option R) : ∀ (n : Nat) (y0 : Nat) (y1 : Int) (y2 : Cf) (y3 : List (Int × Int × Int × Int × Bool × Int)), loopRun (C_SteadyComes fu c load r) G17s S.SteadyComes_b0 n (S.SteadyComes_s0 c load r (y0) (y1) (y2) (y3)) K = oK (β := (Cf × List (Int × Int × Int × Int × Bool × Int)) ⊕ (Nat × Int × Bool × Cf × List (Int × Int × Int × Int × Bool × Int))) (S.SteadyComes_g0 c load r K) (S.SteadyComes_l0 fu c load r n y0 y1 y2 y3)
  | 0, _, _, _, _ => rfl
  | n + 1, y0, y1, y2, y3 => (S.SteadyComes_l0_k fu c load r n K y0 y1 y2 y3).trans (bif_lift (f := (oK (S.SteadyComes_g0 c load r K))) (bif_lift (f := (oK (S.SteadyComes_g0 c load r K))) (opt_lift fun o4 => (bif_lift (f := (oK (S.SteadyComes_g0 c load r K))) rfl (bif_lift (f := (oK (S.SteadyComes_g0 c load r K))) (opt_lift fun o7 => (bif_lift (f := (oK (S.SteadyComes_g0 c load r K))) rfl (bif_lift (f := (oK (S.SteadyComes_g0 c load r K))) (opt_lift fun o10 => (bif_lift (f := (oK (S.SteadyComes_g0 c load r K))) rfl (bif_lift (f := (oK (S.SteadyComes_g0 c load r K))) (opt_lift fun o13 => (bif_lift (f := (oK (S.SteadyComes_g0 c load r K))) rfl (S.SteadyComes_l0_v fu c load r K n (y0) (Go.IntKind.wrap .i64 (y1 + 1)) (y2) (y3)))) rfl))) rfl))) rfl))) rfl) rfl)
theorem S.SteadyComes_a0_1_k {R : Type} (fu : Nat) (c : Cf) (load r : Int) (z0 : Nat) (z1 : Int) (z2 : Bool) (z3 : Cf) (z4 : List (Int × Int × Int × Int × Bool × Int)) (k : AVal → List Blk → Option R) : contOf (C_SteadyComes fu c load r) G17s (bodyOf Try.f3) [1, 1, 1, 1, 1, 1, 1, 1, 1, 1, 1, 1, 0, 1, 0] (retK tis F3 Try.f3 (List.length ([] : List Blk)) k) (Ex.exit 0) (S.SteadyComes_x0_1 c load r (z0) (z1) (z2) (z3) (z4)) =
  ((optK (S.q_told26) fun o2 =>
   bif o2 then
   (optK (S.q_aim z3 (if 1000000000 < Go.IntKind.wrap .i64 (Int.tmod (Go.IntKind.wrap .u64 load) (Go.IntKind.wrap .u64 (Go.IntKind.wrap .i64 (Go.IntKind.wrap .i64 (S.rper (DDc c) * S.q_rcmost (DDc c)) + 1)))) then 1000000000 else Go.IntKind.wrap .i64 (Int.tmod (Go.IntKind.wrap .u64 load) (Go.IntKind.wrap .u64 (Go.IntKind.wrap .i64 (Go.IntKind.wrap .i64 (S.rper (DDc c) * S.q_rcmost (DDc c)) + 1)))))) fun o4 =>
   (S.SteadyComes_gk c load r k) (decide (o4 = if Go.IntKind.wrap .i64 (Int.tdiv (Go.IntKind.wrap .i64 (Go.IntKind.wrap .i64 ((if 1000000000 < Go.IntKind.wrap .i64 (Int.tmod (Go.IntKind.wrap .u64 load) (Go.IntKind.wrap .u64 (Go.IntKind.wrap .i64 (Go.IntKind.wrap .i64 (S.rper (DDc c) * S.q_rcmost (DDc c)) + 1)))) then 1000000000 else Go.IntKind.wrap .i64 (Int.tmod (Go.IntKind.wrap .u64 load) (Go.IntKind.wrap .u64 (Go.IntKind.wrap .i64 (Go.IntKind.wrap .i64 (S.rper (DDc c) * S.q_rcmost (DDc c)) + 1))))) + S.rper (DDc c)) - 1)) (S.rper (DDc c))) > c.min then Go.IntKind.wrap .i64 (Int.tdiv (Go.IntKind.wrap .i64 (Go.IntKind.wrap .i64 ((if 1000000000 < Go.IntKind.wrap .i64 (Int.tmod (Go.IntKind.wrap .u64 load) (Go.IntKind.wrap .u64 (Go.IntKind.wrap .i64 (Go.IntKind.wrap .i64 (S.rper (DDc c) * S.q_rcmost (DDc c)) + 1)))) then 1000000000 else Go.IntKind.wrap .i64 (Int.tmod (Go.IntKind.wrap .u64 load) (Go.IntKind.wrap .u64 (Go.IntKind.wrap .i64 (Go.IntKind.wrap .i64 (S.rper (DDc c) * S.q_rcmost (DDc c)) + 1))))) + S.rper (DDc c)) - 1)) (S.rper (DDc c))) else c.min)))
 else
   (S.SteadyComes_gk c load r k) (false))) := by kernel_rfl
noncomputable def S.SteadyComes_a0_1 (fu : Nat) (c : Cf) (load r : Int) (z0 : Nat) (z1 : Int) (z2 : Bool) (z3 : Cf) (z4 : List (Int × Int × Int × Int × Bool × Int)) : Option (Bool) :=
  (optK (S.q_told26) fun o2 =>
   bif o2 then
   (optK (S.q_aim z3 (if 1000000000 < Go.IntKind.wrap .i64 (Int.tmod (Go.IntKind.wrap .u64 load) (Go.IntKind.wrap .u64 (Go.IntKind.wrap .i64 (Go.IntKind.wrap .i64 (S.rper (DDc c) * S.q_rcmost (DDc c)) + 1)))) then 1000000000 else Go.IntKind.wrap .i64 (Int.tmod (Go.IntKind.wrap .u64 load) (Go.IntKind.wrap .u64 (Go.IntKind.wrap .i64 (Go.IntKind.wrap .i64 (S.rper (DDc c) * S.q_rcmost (DDc c)) + 1)))))) fun o4 =>
   some (decide (o4 = if Go.IntKind.wrap .i64 (Int.tdiv (Go.IntKind.wrap .i64 (Go.IntKind.wrap .i64 ((if 1000000000 < Go.IntKind.wrap .i64 (Int.tmod (Go.IntKind.wrap .u64 load) (Go.IntKind.wrap .u64 (Go.IntKind.wrap .i64 (Go.IntKind.wrap .i64 (S.rper (DDc c) * S.q_rcmost (DDc c)) + 1)))) then 1000000000 else Go.IntKind.wrap .i64 (Int.tmod (Go.IntKind.wrap .u64 load) (Go.IntKind.wrap .u64 (Go.IntKind.wrap .i64 (Go.IntKind.wrap .i64 (S.rper (DDc c) * S.q_rcmost (DDc c)) + 1))))) + S.rper (DDc c)) - 1)) (S.rper (DDc c))) > c.min then Go.IntKind.wrap .i64 (Int.tdiv (Go.IntKind.wrap .i64 (Go.IntKind.wrap .i64 ((if 1000000000 < Go.IntKind.wrap .i64 (Int.tmod (Go.IntKind.wrap .u64 load) (Go.IntKind.wrap .u64 (Go.IntKind.wrap .i64 (Go.IntKind.wrap .i64 (S.rper (DDc c) * S.q_rcmost (DDc c)) + 1)))) then 1000000000 else Go.IntKind.wrap .i64 (Int.tmod (Go.IntKind.wrap .u64 load) (Go.IntKind.wrap .u64 (Go.IntKind.wrap .i64 (Go.IntKind.wrap .i64 (S.rper (DDc c) * S.q_rcmost (DDc c)) + 1))))) + S.rper (DDc c)) - 1)) (S.rper (DDc c))) else c.min)))
 else
   some (false))
theorem S.SteadyComes_a0_1_v {R : Type} (fu : Nat) (c : Cf) (load r : Int) (z0 : Nat) (z1 : Int) (z2 : Bool) (z3 : Cf) (z4 : List (Int × Int × Int × Int × Bool × Int)) (k : AVal → List Blk → Option R) : contOf (C_SteadyComes fu c load r) G17s (bodyOf Try.f3) [1, 1, 1, 1, 1, 1, 1, 1, 1, 1, 1, 1, 0, 1, 0] (retK tis F3 Try.f3 (List.length ([] : List Blk)) k) (Ex.exit 0) (S.SteadyComes_x0_1 c load r (z0) (z1) (z2) (z3) (z4)) = oK (S.SteadyComes_gk c load r k) (S.SteadyComes_a0_1 fu c load r z0 z1 z2 z3 z4) :=
  (S.SteadyComes_a0_1_k fu c load r z0 z1 z2 z3 z4 k).trans (opt_lift fun o2 => (bif_lift (f := (oK (S.SteadyComes_gk c load r k))) (opt_lift fun o4 => rfl) rfl))
theorem S.SteadyComes_a0_0_k {R : Type} (fu : Nat) (c : Cf) (load r : Int) (z0 : Cf) (z1 : List (Int × Int × Int × Int × Bool × Int)) (k : AVal → List Blk → Option R) : contOf (C_SteadyComes fu c load r) G17s (bodyOf Try.f3) [1, 1, 1, 1, 1, 1, 1, 1, 1, 1, 1, 1, 0, 1, 0] (retK tis F3 Try.f3 (List.length ([] : List Blk)) k) (Ex.ret) (S.SteadyComes_x0_0 c load r (z0) (z1)) =
  ((S.SteadyComes_gk c load r k) (false)) := by kernel_rfl
noncomputable def S.SteadyComes_a0_0 (fu : Nat) (c : Cf) (load r : Int) (z0 : Cf) (z1 : List (Int × Int × Int × Int × Bool × Int)) : Option (Bool) :=
  some (false)
theorem S.SteadyComes_a0_0_v {R : Type} (fu : Nat) (c : Cf) (load r : Int) (z0 : Cf) (z1 : List (Int × Int × Int × Int × Bool × Int)) (k : AVal → List Blk → Option R) : contOf (C_SteadyComes fu c load r) G17s (bodyOf Try.f3) [1, 1, 1, 1, 1, 1, 1, 1, 1, 1, 1, 1, 0, 1, 0] (retK tis F3 Try.f3 (List.length ([] : List Blk)) k) (Ex.ret) (S.SteadyComes_x0_0 c load r (z0) (z1)) = oK (S.SteadyComes_gk c load r k) (S.SteadyComes_a0_0 fu c load r z0 z1) :=
  (S.SteadyComes_a0_0_k fu c load r z0 z1 k).trans rfl
noncomputable def S.SteadyComes_L {R : Type} (fu : Nat) (c : Cf) (load r : Int) (k : AVal → List Blk → Option R) : Option R := fnEval tis F3 fu G17s Try.f3 [.agg (cfA c), .int .i64 load, .int .i64 r] [] k
theorem S.SteadyComes_k {R : Type} (fu : Nat) (c : Cf) (load r : Int) (k : AVal → List Blk → Option R) : S.SteadyComes_L fu c load r k =
  (bif decide (Go.IntKind.wrap .u64 (Go.IntKind.wrap .i64 (1 + Go.IntKind.wrap .i64 (Int.tmod (Go.IntKind.wrap .u64 c.panic) 6))) = 0) then
   none
 else
   bif !S.q_rmay (DDc c) then
   (optK (S.q_told26) fun o4 =>
   (S.SteadyComes_gk c load r k) (o4))
 else
   bif decide (Go.IntKind.wrap .u64 (Go.IntKind.wrap .i64 (Go.IntKind.wrap .i64 (S.rper (DDc c) * S.q_rcmost (DDc c)) + 1)) = 0) then
   none
 else
   (optK (S.q_run 100000 (DDc c) (if 1000000000 < Go.IntKind.wrap .i64 (Int.tmod (Go.IntKind.wrap .u64 load) (Go.IntKind.wrap .u64 (Go.IntKind.wrap .i64 (Go.IntKind.wrap .i64 (S.rper (DDc c) * S.q_rcmost (DDc c)) + 1)))) then 1000000000 else Go.IntKind.wrap .i64 (Int.tmod (Go.IntKind.wrap .u64 load) (Go.IntKind.wrap .u64 (Go.IntKind.wrap .i64 (Go.IntKind.wrap .i64 (S.rper (DDc c) * S.q_rcmost (DDc c)) + 1))))) r (Go.IntKind.wrap .i64 (S.tks (DDc c) + 50))) fun o5 =>
   (Sum.elim (fun o6 : Unit =>
    bif !decide (0 = Go.IntKind.wrap .i64 (S.tks (DDc c) + 50)) then
   (S.SteadyComes_gk c load r k) (false)
 else
   bif decide (S.tks (DDc c) < 400) then
   (S.SteadyComes_gk c load r k) (false)
 else
   bif decide (S.rper (DDc c) = 0) then
   none
 else
   loopRun (C_SteadyComes fu c load r) G17s S.SteadyComes_b0 fu (S.SteadyComes_s0 c load r (0) (Go.IntKind.wrap .i64 (S.tks (DDc c) - 1)) ((⟨c.target, c.util, Go.IntKind.wrap .i64 (6 + Go.IntKind.wrap .i64 (Int.tmod (Go.IntKind.wrap .u64 c.stable) 35)), Go.IntKind.wrap .i64 (1 + Go.IntKind.wrap .i64 (Int.tmod (Go.IntKind.wrap .u64 c.panic) 6)), Go.IntKind.wrap .i64 (1 + Go.IntKind.wrap .i64 (Int.tmod (Go.IntKind.wrap .u64 c.grain) (Go.IntKind.wrap .u64 (Go.IntKind.wrap .i64 (1 + Go.IntKind.wrap .i64 (Int.tmod (Go.IntKind.wrap .u64 c.panic) 6)))))), c.threshold, if 1100 > c.up then 1100 else c.up, if 1100 > c.down then 1100 else c.down, c.min, c.max, c.initial, c.grace, Go.IntKind.wrap .i64 (Int.tmod (Go.IntKind.wrap .u64 c.delay) 11), c.burst, c.limit, c.queue, c.timeout, c.ready, c.subset, c.sample⟩ : Cf)) ([])) (contOf (C_SteadyComes fu c load r) G17s (bodyOf Try.f3) [1, 1, 1, 1, 1, 1, 1, 1, 1, 1, 1, 1, 0, 1, 0] (retK tis F3 Try.f3 (List.length ([] : List Blk)) k))) (fun o6 : Nat × List (Int × Int × Int × Int × Bool × Int) =>
    bif !decide (((o6.1 : Nat) : Int) = Go.IntKind.wrap .i64 (S.tks (DDc c) + 50)) then
   (S.SteadyComes_gk c load r k) (false)
 else
   bif decide (S.tks (DDc c) < 400) then
   (S.SteadyComes_gk c load r k) (false)
 else
   bif decide (S.rper (DDc c) = 0) then
   none
 else
   loopRun (C_SteadyComes fu c load r) G17s S.SteadyComes_b0 fu (S.SteadyComes_s0 c load r (o6.1) (Go.IntKind.wrap .i64 (S.tks (DDc c) - 1)) ((⟨c.target, c.util, Go.IntKind.wrap .i64 (6 + Go.IntKind.wrap .i64 (Int.tmod (Go.IntKind.wrap .u64 c.stable) 35)), Go.IntKind.wrap .i64 (1 + Go.IntKind.wrap .i64 (Int.tmod (Go.IntKind.wrap .u64 c.panic) 6)), Go.IntKind.wrap .i64 (1 + Go.IntKind.wrap .i64 (Int.tmod (Go.IntKind.wrap .u64 c.grain) (Go.IntKind.wrap .u64 (Go.IntKind.wrap .i64 (1 + Go.IntKind.wrap .i64 (Int.tmod (Go.IntKind.wrap .u64 c.panic) 6)))))), c.threshold, if 1100 > c.up then 1100 else c.up, if 1100 > c.down then 1100 else c.down, c.min, c.max, c.initial, c.grace, Go.IntKind.wrap .i64 (Int.tmod (Go.IntKind.wrap .u64 c.delay) 11), c.burst, c.limit, c.queue, c.timeout, c.ready, c.subset, c.sample⟩ : Cf)) (o6.2)) (contOf (C_SteadyComes fu c load r) G17s (bodyOf Try.f3) [1, 1, 1, 1, 1, 1, 1, 1, 1, 1, 1, 1, 0, 1, 0] (retK tis F3 Try.f3 (List.length ([] : List Blk)) k))) (o5)))) := by kernel_rfl
noncomputable def S.SteadyComes (fu : Nat) (c : Cf) (load r : Int) : Option (Bool) :=
  bif decide (Go.IntKind.wrap .u64 (Go.IntKind.wrap .i64 (1 + Go.IntKind.wrap .i64 (Int.tmod (Go.IntKind.wrap .u64 c.panic) 6))) = 0) then
   none
 else
   bif !S.q_rmay (DDc c) then
   (optK (S.q_told26) fun o4 =>
   some (o4))
 else
   bif decide (Go.IntKind.wrap .u64 (Go.IntKind.wrap .i64 (Go.IntKind.wrap .i64 (S.rper (DDc c) * S.q_rcmost (DDc c)) + 1)) = 0) then
   none
 else
   (optK (S.q_run 100000 (DDc c) (if 1000000000 < Go.IntKind.wrap .i64 (Int.tmod (Go.IntKind.wrap .u64 load) (Go.IntKind.wrap .u64 (Go.IntKind.wrap .i64 (Go.IntKind.wrap .i64 (S.rper (DDc c) * S.q_rcmost (DDc c)) + 1)))) then 1000000000 else Go.IntKind.wrap .i64 (Int.tmod (Go.IntKind.wrap .u64 load) (Go.IntKind.wrap .u64 (Go.IntKind.wrap .i64 (Go.IntKind.wrap .i64 (S.rper (DDc c) * S.q_rcmost (DDc c)) + 1))))) r (Go.IntKind.wrap .i64 (S.tks (DDc c) + 50))) fun o5 =>
   (Sum.elim (fun o6 : Unit =>
    bif !decide (0 = Go.IntKind.wrap .i64 (S.tks (DDc c) + 50)) then
   some (false)
 else
   bif decide (S.tks (DDc c) < 400) then
   some (false)
 else
   bif decide (S.rper (DDc c) = 0) then
   none
 else
   optK (S.SteadyComes_l0 fu c load r fu (0) (Go.IntKind.wrap .i64 (S.tks (DDc c) - 1)) ((⟨c.target, c.util, Go.IntKind.wrap .i64 (6 + Go.IntKind.wrap .i64 (Int.tmod (Go.IntKind.wrap .u64 c.stable) 35)), Go.IntKind.wrap .i64 (1 + Go.IntKind.wrap .i64 (Int.tmod (Go.IntKind.wrap .u64 c.panic) 6)), Go.IntKind.wrap .i64 (1 + Go.IntKind.wrap .i64 (Int.tmod (Go.IntKind.wrap .u64 c.grain) (Go.IntKind.wrap .u64 (Go.IntKind.wrap .i64 (1 + Go.IntKind.wrap .i64 (Int.tmod (Go.IntKind.wrap .u64 c.panic) 6)))))), c.threshold, if 1100 > c.up then 1100 else c.up, if 1100 > c.down then 1100 else c.down, c.min, c.max, c.initial, c.grace, Go.IntKind.wrap .i64 (Int.tmod (Go.IntKind.wrap .u64 c.delay) 11), c.burst, c.limit, c.queue, c.timeout, c.ready, c.subset, c.sample⟩ : Cf)) ([])) (Sum.elim (fun z : Cf × List (Int × Int × Int × Int × Bool × Int) => S.SteadyComes_a0_0 fu c load r (z.1) (z.2)) (fun z : Nat × Int × Bool × Cf × List (Int × Int × Int × Int × Bool × Int) => S.SteadyComes_a0_1 fu c load r (z.1) (z.2.1) (z.2.2.1) (z.2.2.2.1) (z.2.2.2.2)))) (fun o6 : Nat × List (Int × Int × Int × Int × Bool × Int) =>
    bif !decide (((o6.1 : Nat) : Int) = Go.IntKind.wrap .i64 (S.tks (DDc c) + 50)) then
   some (false)
 else
   bif decide (S.tks (DDc c) < 400) then
   some (false)
 else
   bif decide (S.rper (DDc c) = 0) then
   none
 else
   optK (S.SteadyComes_l0 fu c load r fu (o6.1) (Go.IntKind.wrap .i64 (S.tks (DDc c) - 1)) ((⟨c.target, c.util, Go.IntKind.wrap .i64 (6 + Go.IntKind.wrap .i64 (Int.tmod (Go.IntKind.wrap .u64 c.stable) 35)), Go.IntKind.wrap .i64 (1 + Go.IntKind.wrap .i64 (Int.tmod (Go.IntKind.wrap .u64 c.panic) 6)), Go.IntKind.wrap .i64 (1 + Go.IntKind.wrap .i64 (Int.tmod (Go.IntKind.wrap .u64 c.grain) (Go.IntKind.wrap .u64 (Go.IntKind.wrap .i64 (1 + Go.IntKind.wrap .i64 (Int.tmod (Go.IntKind.wrap .u64 c.panic) 6)))))), c.threshold, if 1100 > c.up then 1100 else c.up, if 1100 > c.down then 1100 else c.down, c.min, c.max, c.initial, c.grace, Go.IntKind.wrap .i64 (Int.tmod (Go.IntKind.wrap .u64 c.delay) 11), c.burst, c.limit, c.queue, c.timeout, c.ready, c.subset, c.sample⟩ : Cf)) (o6.2)) (Sum.elim (fun z : Cf × List (Int × Int × Int × Int × Bool × Int) => S.SteadyComes_a0_0 fu c load r (z.1) (z.2)) (fun z : Nat × Int × Bool × Cf × List (Int × Int × Int × Int × Bool × Int) => S.SteadyComes_a0_1 fu c load r (z.1) (z.2.1) (z.2.2.1) (z.2.2.2.1) (z.2.2.2.2)))) (o5)))
theorem S.SteadyComes_v {R : Type} (fu : Nat) (c : Cf) (load r : Int) (k : AVal → List Blk → Option R) : S.SteadyComes_L fu c load r k = oK (S.SteadyComes_gk c load r k) (S.SteadyComes fu c load r) :=
  (S.SteadyComes_k fu c load r k).trans (by
      unfold S.SteadyComes
      refine bif_lift (f := (oK (S.SteadyComes_gk c load r k))) ?_ ?_
      · 
        exact rfl
      · 
        refine bif_lift (f := (oK (S.SteadyComes_gk c load r k))) ?_ ?_
        · 
          refine opt_lift fun o4 => ?_
          exact rfl
        · 
          refine bif_lift (f := (oK (S.SteadyComes_gk c load r k))) ?_ ?_
          · 
            exact rfl
          · 
            refine opt_lift fun o5 => ?_
            refine sumF_lift (f := (oK (S.SteadyComes_gk c load r k))) (fun o6 => ?_) (fun o6 => ?_) _
            · 
              refine bif_lift (f := (oK (S.SteadyComes_gk c load r k))) ?_ ?_
              · 
                exact rfl
              · 
                refine bif_lift (f := (oK (S.SteadyComes_gk c load r k))) ?_ ?_
                · 
                  exact rfl
                · 
                  refine bif_lift (f := (oK (S.SteadyComes_gk c load r k))) ?_ ?_
                  · 
                    exact rfl
                  · 
                    exact (arr_lift (S.SteadyComes_l0_v fu c load r (contOf (C_SteadyComes fu c load r) G17s (bodyOf Try.f3) [1, 1, 1, 1, 1, 1, 1, 1, 1, 1, 1, 1, 0, 1, 0] (retK tis F3 Try.f3 (List.length ([] : List Blk)) k)) fu (0) (Go.IntKind.wrap .i64 (S.tks (DDc c) - 1)) ((⟨c.target, c.util, Go.IntKind.wrap .i64 (6 + Go.IntKind.wrap .i64 (Int.tmod (Go.IntKind.wrap .u64 c.stable) 35)), Go.IntKind.wrap .i64 (1 + Go.IntKind.wrap .i64 (Int.tmod (Go.IntKind.wrap .u64 c.panic) 6)), Go.IntKind.wrap .i64 (1 + Go.IntKind.wrap .i64 (Int.tmod (Go.IntKind.wrap .u64 c.grain) (Go.IntKind.wrap .u64 (Go.IntKind.wrap .i64 (1 + Go.IntKind.wrap .i64 (Int.tmod (Go.IntKind.wrap .u64 c.panic) 6)))))), c.threshold, if 1100 > c.up then 1100 else c.up, if 1100 > c.down then 1100 else c.down, c.min, c.max, c.initial, c.grace, Go.IntKind.wrap .i64 (Int.tmod (Go.IntKind.wrap .u64 c.delay) 11), c.burst, c.limit, c.queue, c.timeout, c.ready, c.subset, c.sample⟩ : Cf)) ([])) ((sum_lift (fun z => S.SteadyComes_a0_0_v fu c load r (z.1) (z.2) k) (fun z => S.SteadyComes_a0_1_v fu c load r (z.1) (z.2.1) (z.2.2.1) (z.2.2.2.1) (z.2.2.2.2) k))))
            · 
              refine bif_lift (f := (oK (S.SteadyComes_gk c load r k))) ?_ ?_
              · 
                exact rfl
              · 
                refine bif_lift (f := (oK (S.SteadyComes_gk c load r k))) ?_ ?_
                · 
                  exact rfl
                · 
                  refine bif_lift (f := (oK (S.SteadyComes_gk c load r k))) ?_ ?_
                  · 
                    exact rfl
                  · 
                    exact (arr_lift (S.SteadyComes_l0_v fu c load r (contOf (C_SteadyComes fu c load r) G17s (bodyOf Try.f3) [1, 1, 1, 1, 1, 1, 1, 1, 1, 1, 1, 1, 0, 1, 0] (retK tis F3 Try.f3 (List.length ([] : List Blk)) k)) fu (o6.1) (Go.IntKind.wrap .i64 (S.tks (DDc c) - 1)) ((⟨c.target, c.util, Go.IntKind.wrap .i64 (6 + Go.IntKind.wrap .i64 (Int.tmod (Go.IntKind.wrap .u64 c.stable) 35)), Go.IntKind.wrap .i64 (1 + Go.IntKind.wrap .i64 (Int.tmod (Go.IntKind.wrap .u64 c.panic) 6)), Go.IntKind.wrap .i64 (1 + Go.IntKind.wrap .i64 (Int.tmod (Go.IntKind.wrap .u64 c.grain) (Go.IntKind.wrap .u64 (Go.IntKind.wrap .i64 (1 + Go.IntKind.wrap .i64 (Int.tmod (Go.IntKind.wrap .u64 c.panic) 6)))))), c.threshold, if 1100 > c.up then 1100 else c.up, if 1100 > c.down then 1100 else c.down, c.min, c.max, c.initial, c.grace, Go.IntKind.wrap .i64 (Int.tmod (Go.IntKind.wrap .u64 c.delay) 11), c.burst, c.limit, c.queue, c.timeout, c.ready, c.subset, c.sample⟩ : Cf)) (o6.2)) ((sum_lift (fun z => S.SteadyComes_a0_0_v fu c load r (z.1) (z.2) k) (fun z => S.SteadyComes_a0_1_v fu c load r (z.1) (z.2.1) (z.2.2.1) (z.2.2.2.1) (z.2.2.2.2) k))))
      )
noncomputable def H3 : Hnd := fun R args σ k => match args, σ with
  | [.agg [.int .i64 target_, .int .i64 util_, .int .i64 stable_, .int .i64 panic_, .int .i64 grain_, .int .i64 threshold_, .int .i64 up_, .int .i64 down_, .int .i64 min_, .int .i64 max_, .int .i64 initial_, .int .i64 grace_, .int .i64 delay_, .int .i64 burst_, .int .i64 limit_, .int .i64 queue_, .int .i64 timeout_, .int .i64 ready_, .int .i64 subset_, .int .i64 sample_], .int .i64 load, .int .i64 r], [] => oK (fun v : Bool => k (.bool v) []) (S.SteadyComes 100000 ⟨target_, util_, stable_, panic_, grain_, threshold_, up_, down_, min_, max_, initial_, grace_, delay_, burst_, limit_, queue_, timeout_, ready_, subset_, sample_⟩ load r)
  | _, _ => none
theorem H3_ok : HndOk Try.prog 3 H3 := hnd_ok tis tisOk mixOk G17s_ok F3 Try.func3 rfl (by
  intro R args σ k r h
  unfold H3 at h
  split at h
  · rename_i target_ util_ stable_ panic_ grain_ threshold_ up_ down_ min_ max_ initial_ grace_ delay_ burst_ limit_ queue_ timeout_ ready_ subset_ sample_ load r; exact ⟨100000, (S.SteadyComes_v 100000 ⟨target_, util_, stable_, panic_, grain_, threshold_, up_, down_, min_, max_, initial_, grace_, delay_, burst_, limit_, queue_, timeout_, ready_, subset_, sample_⟩ load r _).trans h⟩
  · cases h)
noncomputable def G3 : Env := Env.add 3 H3 G17s
theorem G3_ok : EnvOk Try.prog G3 := envAdd_ok H3_ok G17s_ok
end Go.Proofs.Ytdgipcjigbagfaa.AB
