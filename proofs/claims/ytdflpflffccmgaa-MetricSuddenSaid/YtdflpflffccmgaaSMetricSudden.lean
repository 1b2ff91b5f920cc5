/- MetricSudden, as a plain function. -/
import Derived.Test.YtdflpflffccmgaaSmetricz
namespace Go.Proofs.Ytdflpflffccmgaa.AB
set_option linter.unusedVariables false

/-! spinnakerlaw11.MetricSudden -/
def F4 : FCfg := ⟨keepAt [(0, [0, 1]), (1, [0, 1, 5]), (2, [0, 1, 6]), (3, [0, 1, 6, 19]), (4, [4]), (5, [6, 7, 8]), (6, [6, 7, 8, 9]), (7, [6, 7, 8, 9, 29]), (8, [6, 7, 8, 9]), (9, [6, 7, 8, 9, 36]), (10, [4]), (11, [6, 7, 8, 10]), (12, [6, 7, 8, 10, 38]), (13, [6, 7, 8, 10]), (14, [6, 7, 8, 10, 45]), (15, [4]), (16, [6, 7, 8, 10, 11, 12]), (17, [6, 7, 8, 10, 11, 12, 13]), (18, [6, 7, 8, 10, 11, 12, 13, 14]), (19, [6, 7, 8, 10, 81]), (20, [4]), (21, [4])], loopAt [(7, [6, 7, 8, 9], []), (12, [6, 7, 8, 10], [])], []⟩
noncomputable def C_MetricSudden (fu : Nat) (a b : Int) : Cfg := Cfg.of tis F4 fu (List.length ([] : List Blk)) Try.f4.ntmps
noncomputable def S.MetricSudden_b0 : Code := codeAt (bodyOf Try.f4) [1, 1, 1, 1, 1, 0, 1, 0, 0]
noncomputable def S.MetricSudden_b1 : Code := codeAt (bodyOf Try.f4) [1, 1, 1, 1, 1, 1, 0, 1, 0, 0]
noncomputable def S.MetricSudden_s0 (a b : Int) (y0 : Int) (y1 : Cf) (y2 : Bool) (y3 : Rg) (y4 : Rg) : St := ⟨[(6, (.ptr 0 (0) 0)), (7, (.int .i64 (Go.IntKind.wrap .i64 (Int.tmod (Go.IntKind.wrap .u64 a) 1000000)))), (8, (.int .i64 (Go.IntKind.wrap .i64 (Int.tmod (Go.IntKind.wrap .u64 b) 1000000)))), (9, (.int .i64 (y0)))], [(.var [(.int .i64 (y1.target)), (.int .i64 (y1.util)), (.int .i64 (y1.stable)), (.int .i64 (y1.panic)), (.int .i64 (y1.grain)), (.int .i64 (y1.threshold)), (.int .i64 (y1.up)), (.int .i64 (y1.down)), (.int .i64 (y1.min)), (.int .i64 (y1.max)), (.int .i64 (y1.initial)), (.int .i64 (y1.grace)), (.int .i64 (y1.delay)), (.int .i64 (y1.burst)), (.int .i64 (y1.limit)), (.int .i64 (y1.queue)), (.int .i64 (y1.timeout)), (.int .i64 (y1.ready)), (.int .i64 (y1.subset)), (.int .i64 (y1.sample)), (.iface 56 (.ptr 1 (0) 0)), (.iface 56 (.ptr 3 (0) 0)), (.bool (y2))]), (.var [(.slice 1 2 (y3.lo) (y3.len) none), (.int .i64 (y3.w)), (.int .i64 (y3.g)), (.int .i64 (y3.n)), (.int .i64 (y3.nw)), (.bool (y3.ov))]), (.fam 80 (Cd.pair (Cd.int .i64) (Cd.pair (Cd.int .i64) (Cd.pair (Cd.int .i64) Cd.bool))) (y3.l) (y3.f)), (.var [(.slice 1 4 (y4.lo) (y4.len) none), (.int .i64 (y4.w)), (.int .i64 (y4.g)), (.int .i64 (y4.n)), (.int .i64 (y4.nw)), (.bool (y4.ov))]), (.fam 80 (Cd.pair (Cd.int .i64) (Cd.pair (Cd.int .i64) (Cd.pair (Cd.int .i64) Cd.bool))) (y4.l) (y4.f))]⟩
noncomputable def S.MetricSudden_x0_0 (a b : Int) (z0 : Cf) (z1 : Bool) (z2 : Rg) (z3 : Rg) : St := ⟨[(4, (.bool (false)))], [(.var [(.int .i64 (z0.target)), (.int .i64 (z0.util)), (.int .i64 (z0.stable)), (.int .i64 (z0.panic)), (.int .i64 (z0.grain)), (.int .i64 (z0.threshold)), (.int .i64 (z0.up)), (.int .i64 (z0.down)), (.int .i64 (z0.min)), (.int .i64 (z0.max)), (.int .i64 (z0.initial)), (.int .i64 (z0.grace)), (.int .i64 (z0.delay)), (.int .i64 (z0.burst)), (.int .i64 (z0.limit)), (.int .i64 (z0.queue)), (.int .i64 (z0.timeout)), (.int .i64 (z0.ready)), (.int .i64 (z0.subset)), (.int .i64 (z0.sample)), (.iface 56 (.ptr 1 (0) 0)), (.iface 56 (.ptr 3 (0) 0)), (.bool (z1))]), (.var [(.slice 1 5 (z2.lo) (z2.len) none), (.int .i64 (z2.w)), (.int .i64 (z2.g)), (.int .i64 (z2.n)), (.int .i64 (z2.nw)), (.bool (z2.ov))]), .dead, (.var [(.slice 1 6 (z3.lo) (z3.len) none), (.int .i64 (z3.w)), (.int .i64 (z3.g)), (.int .i64 (z3.n)), (.int .i64 (z3.nw)), (.bool (z3.ov))]), .dead, (.fam 80 (Cd.pair (Cd.int .i64) (Cd.pair (Cd.int .i64) (Cd.pair (Cd.int .i64) Cd.bool))) (z2.l) (z2.f)), (.fam 80 (Cd.pair (Cd.int .i64) (Cd.pair (Cd.int .i64) (Cd.pair (Cd.int .i64) Cd.bool))) (z3.l) (z3.f))]⟩
noncomputable def S.MetricSudden_x0_1 (a b : Int) (z0 : Int) (z1 : Bool) (z2 : Cf) (z3 : Bool) (z4 : Rg) (z5 : Rg) : St := ⟨[(6, (.ptr 0 (0) 0)), (7, (.int .i64 (Go.IntKind.wrap .i64 (Int.tmod (Go.IntKind.wrap .u64 a) 1000000)))), (8, (.int .i64 (Go.IntKind.wrap .i64 (Int.tmod (Go.IntKind.wrap .u64 b) 1000000)))), (9, (.int .i64 (z0))), (29, (.bool (z1)))], [(.var [(.int .i64 (z2.target)), (.int .i64 (z2.util)), (.int .i64 (z2.stable)), (.int .i64 (z2.panic)), (.int .i64 (z2.grain)), (.int .i64 (z2.threshold)), (.int .i64 (z2.up)), (.int .i64 (z2.down)), (.int .i64 (z2.min)), (.int .i64 (z2.max)), (.int .i64 (z2.initial)), (.int .i64 (z2.grace)), (.int .i64 (z2.delay)), (.int .i64 (z2.burst)), (.int .i64 (z2.limit)), (.int .i64 (z2.queue)), (.int .i64 (z2.timeout)), (.int .i64 (z2.ready)), (.int .i64 (z2.subset)), (.int .i64 (z2.sample)), (.iface 56 (.ptr 1 (0) 0)), (.iface 56 (.ptr 3 (0) 0)), (.bool (z3))]), (.var [(.slice 1 2 (z4.lo) (z4.len) none), (.int .i64 (z4.w)), (.int .i64 (z4.g)), (.int .i64 (z4.n)), (.int .i64 (z4.nw)), (.bool (z4.ov))]), (.fam 80 (Cd.pair (Cd.int .i64) (Cd.pair (Cd.int .i64) (Cd.pair (Cd.int .i64) Cd.bool))) (z4.l) (z4.f)), (.var [(.slice 1 4 (z5.lo) (z5.len) none), (.int .i64 (z5.w)), (.int .i64 (z5.g)), (.int .i64 (z5.n)), (.int .i64 (z5.nw)), (.bool (z5.ov))]), (.fam 80 (Cd.pair (Cd.int .i64) (Cd.pair (Cd.int .i64) (Cd.pair (Cd.int .i64) Cd.bool))) (z5.l) (z5.f))]⟩
noncomputable def S.MetricSudden_s1 (a b : Int) (y0 : Int) (y1 : Cf) (y2 : Bool) (y3 : Rg) (y4 : Rg) : St := ⟨[(6, (.ptr 0 (0) 0)), (7, (.int .i64 (Go.IntKind.wrap .i64 (Int.tmod (Go.IntKind.wrap .u64 a) 1000000)))), (8, (.int .i64 (Go.IntKind.wrap .i64 (Int.tmod (Go.IntKind.wrap .u64 b) 1000000)))), (10, (.int .i64 (y0)))], [(.var [(.int .i64 (y1.target)), (.int .i64 (y1.util)), (.int .i64 (y1.stable)), (.int .i64 (y1.panic)), (.int .i64 (y1.grain)), (.int .i64 (y1.threshold)), (.int .i64 (y1.up)), (.int .i64 (y1.down)), (.int .i64 (y1.min)), (.int .i64 (y1.max)), (.int .i64 (y1.initial)), (.int .i64 (y1.grace)), (.int .i64 (y1.delay)), (.int .i64 (y1.burst)), (.int .i64 (y1.limit)), (.int .i64 (y1.queue)), (.int .i64 (y1.timeout)), (.int .i64 (y1.ready)), (.int .i64 (y1.subset)), (.int .i64 (y1.sample)), (.iface 56 (.ptr 1 (0) 0)), (.iface 56 (.ptr 3 (0) 0)), (.bool (y2))]), (.var [(.slice 1 2 (y3.lo) (y3.len) none), (.int .i64 (y3.w)), (.int .i64 (y3.g)), (.int .i64 (y3.n)), (.int .i64 (y3.nw)), (.bool (y3.ov))]), (.fam 80 (Cd.pair (Cd.int .i64) (Cd.pair (Cd.int .i64) (Cd.pair (Cd.int .i64) Cd.bool))) (y3.l) (y3.f)), (.var [(.slice 1 4 (y4.lo) (y4.len) none), (.int .i64 (y4.w)), (.int .i64 (y4.g)), (.int .i64 (y4.n)), (.int .i64 (y4.nw)), (.bool (y4.ov))]), (.fam 80 (Cd.pair (Cd.int .i64) (Cd.pair (Cd.int .i64) (Cd.pair (Cd.int .i64) Cd.bool))) (y4.l) (y4.f))]⟩
noncomputable def S.MetricSudden_x1_0 (a b : Int) (z0 : Cf) (z1 : Bool) (z2 : Rg) (z3 : Rg) : St := ⟨[(4, (.bool (false)))], [(.var [(.int .i64 (z0.target)), (.int .i64 (z0.util)), (.int .i64 (z0.stable)), (.int .i64 (z0.panic)), (.int .i64 (z0.grain)), (.int .i64 (z0.threshold)), (.int .i64 (z0.up)), (.int .i64 (z0.down)), (.int .i64 (z0.min)), (.int .i64 (z0.max)), (.int .i64 (z0.initial)), (.int .i64 (z0.grace)), (.int .i64 (z0.delay)), (.int .i64 (z0.burst)), (.int .i64 (z0.limit)), (.int .i64 (z0.queue)), (.int .i64 (z0.timeout)), (.int .i64 (z0.ready)), (.int .i64 (z0.subset)), (.int .i64 (z0.sample)), (.iface 56 (.ptr 1 (0) 0)), (.iface 56 (.ptr 3 (0) 0)), (.bool (z1))]), (.var [(.slice 1 5 (z2.lo) (z2.len) none), (.int .i64 (z2.w)), (.int .i64 (z2.g)), (.int .i64 (z2.n)), (.int .i64 (z2.nw)), (.bool (z2.ov))]), .dead, (.var [(.slice 1 6 (z3.lo) (z3.len) none), (.int .i64 (z3.w)), (.int .i64 (z3.g)), (.int .i64 (z3.n)), (.int .i64 (z3.nw)), (.bool (z3.ov))]), .dead, (.fam 80 (Cd.pair (Cd.int .i64) (Cd.pair (Cd.int .i64) (Cd.pair (Cd.int .i64) Cd.bool))) (z2.l) (z2.f)), (.fam 80 (Cd.pair (Cd.int .i64) (Cd.pair (Cd.int .i64) (Cd.pair (Cd.int .i64) Cd.bool))) (z3.l) (z3.f))]⟩
noncomputable def S.MetricSudden_x1_1 (a b : Int) (z0 : Int) (z1 : Bool) (z2 : Cf) (z3 : Bool) (z4 : Rg) (z5 : Rg) : St := ⟨[(6, (.ptr 0 (0) 0)), (7, (.int .i64 (Go.IntKind.wrap .i64 (Int.tmod (Go.IntKind.wrap .u64 a) 1000000)))), (8, (.int .i64 (Go.IntKind.wrap .i64 (Int.tmod (Go.IntKind.wrap .u64 b) 1000000)))), (10, (.int .i64 (z0))), (38, (.bool (z1)))], [(.var [(.int .i64 (z2.target)), (.int .i64 (z2.util)), (.int .i64 (z2.stable)), (.int .i64 (z2.panic)), (.int .i64 (z2.grain)), (.int .i64 (z2.threshold)), (.int .i64 (z2.up)), (.int .i64 (z2.down)), (.int .i64 (z2.min)), (.int .i64 (z2.max)), (.int .i64 (z2.initial)), (.int .i64 (z2.grace)), (.int .i64 (z2.delay)), (.int .i64 (z2.burst)), (.int .i64 (z2.limit)), (.int .i64 (z2.queue)), (.int .i64 (z2.timeout)), (.int .i64 (z2.ready)), (.int .i64 (z2.subset)), (.int .i64 (z2.sample)), (.iface 56 (.ptr 1 (0) 0)), (.iface 56 (.ptr 3 (0) 0)), (.bool (z3))]), (.var [(.slice 1 2 (z4.lo) (z4.len) none), (.int .i64 (z4.w)), (.int .i64 (z4.g)), (.int .i64 (z4.n)), (.int .i64 (z4.nw)), (.bool (z4.ov))]), (.fam 80 (Cd.pair (Cd.int .i64) (Cd.pair (Cd.int .i64) (Cd.pair (Cd.int .i64) Cd.bool))) (z4.l) (z4.f)), (.var [(.slice 1 4 (z5.lo) (z5.len) none), (.int .i64 (z5.w)), (.int .i64 (z5.g)), (.int .i64 (z5.n)), (.int .i64 (z5.nw)), (.bool (z5.ov))]), (.fam 80 (Cd.pair (Cd.int .i64) (Cd.pair (Cd.int .i64) (Cd.pair (Cd.int .i64) Cd.bool))) (z5.l) (z5.f))]⟩
noncomputable def S.MetricSudden_g0 {R : Type} (a b : Int) (K : Ex → St → Option R) : ((Cf × Bool × Rg × Rg) ⊕ (Int × Bool × Cf × Bool × Rg × Rg)) → Option R := (Sum.elim (fun z : Cf × Bool × Rg × Rg => K (Ex.ret) (S.MetricSudden_x0_0 a b (z.1) (z.2.1) (z.2.2.1) (z.2.2.2))) (fun z : Int × Bool × Cf × Bool × Rg × Rg => K (Ex.exit 0) (S.MetricSudden_x0_1 a b (z.1) (z.2.1) (z.2.2.1) (z.2.2.2.1) (z.2.2.2.2.1) (z.2.2.2.2.2))))
noncomputable def S.MetricSudden_g1 {R : Type} (a b : Int) (K : Ex → St → Option R) : ((Cf × Bool × Rg × Rg) ⊕ (Int × Bool × Cf × Bool × Rg × Rg)) → Option R := (Sum.elim (fun z : Cf × Bool × Rg × Rg => K (Ex.ret) (S.MetricSudden_x1_0 a b (z.1) (z.2.1) (z.2.2.1) (z.2.2.2))) (fun z : Int × Bool × Cf × Bool × Rg × Rg => K (Ex.exit 2) (S.MetricSudden_x1_1 a b (z.1) (z.2.1) (z.2.2.1) (z.2.2.2.1) (z.2.2.2.2.1) (z.2.2.2.2.2))))
noncomputable def S.MetricSudden_gk {R : Type} (a b : Int) (k : AVal → List Blk → Option R) : (Bool) → Option R := (fun v : Bool => k (.bool v) [])
theorem S.MetricSudden_l1_k {R : Type} (fu : Nat) (a b : Int) (n : Nat) (K : Ex → St → Option R) (y0 : Int) (y1 : Cf) (y2 : Bool) (y3 : Rg) (y4 : Rg) : loopRun (C_MetricSudden fu a b) G16s S.MetricSudden_b1 (n + 1) (S.MetricSudden_s1 a b (y0) (y1) (y2) (y3) (y4)) K =
  (bif decide (y0 < 200) then
   (optK (S.q_mput y1 y2 y3 y4 y0 (Go.IntKind.wrap .i64 (Int.tmod (Go.IntKind.wrap .u64 b) 1000000))) fun o3 =>
   bif !decide (o3.1 = 0) then
   K (Ex.ret) (S.MetricSudden_x1_0 a b (o3.2.1) (o3.2.2.1) (o3.2.2.2.1) (o3.2.2.2.2))
 else
   (optK (S.q_mmeans o3.2.1 o3.2.2.1 o3.2.2.2.1 o3.2.2.2.2 y0) fun o5 =>
   bif !decide (o5.1 = Go.IntKind.wrap .i64 (Int.tdiv (Go.IntKind.wrap .i64 (Go.IntKind.wrap .i64 ((if 60 < Go.IntKind.wrap .i64 (y0 - 99) then 60 else Go.IntKind.wrap .i64 (y0 - 99)) * Go.IntKind.wrap .i64 (Int.tmod (Go.IntKind.wrap .u64 b) 1000000)) + Go.IntKind.wrap .i64 (Go.IntKind.wrap .i64 (60 - if 60 < Go.IntKind.wrap .i64 (y0 - 99) then 60 else Go.IntKind.wrap .i64 (y0 - 99)) * Go.IntKind.wrap .i64 (Int.tmod (Go.IntKind.wrap .u64 a) 1000000)))) 60)) then
   K (Ex.ret) (S.MetricSudden_x1_0 a b (o5.2.2.1) (o5.2.2.2.1) (o5.2.2.2.2.1) (o5.2.2.2.2.2))
 else
   bif !decide (o5.2.1 = Go.IntKind.wrap .i64 (Int.tdiv (Go.IntKind.wrap .i64 (Go.IntKind.wrap .i64 ((if 6 < Go.IntKind.wrap .i64 (y0 - 99) then 6 else Go.IntKind.wrap .i64 (y0 - 99)) * Go.IntKind.wrap .i64 (Int.tmod (Go.IntKind.wrap .u64 b) 1000000)) + Go.IntKind.wrap .i64 (Go.IntKind.wrap .i64 (6 - if 6 < Go.IntKind.wrap .i64 (y0 - 99) then 6 else Go.IntKind.wrap .i64 (y0 - 99)) * Go.IntKind.wrap .i64 (Int.tmod (Go.IntKind.wrap .u64 a) 1000000)))) 6)) then
   K (Ex.ret) (S.MetricSudden_x1_0 a b (o5.2.2.1) (o5.2.2.2.1) (o5.2.2.2.2.1) (o5.2.2.2.2.2))
 else
   loopRun (C_MetricSudden fu a b) G16s S.MetricSudden_b1 n (S.MetricSudden_s1 a b (Go.IntKind.wrap .i64 (y0 + 1)) (o5.2.2.1) (o5.2.2.2.1) (o5.2.2.2.2.1) (o5.2.2.2.2.2)) K))
 else
   K (Ex.exit 2) (S.MetricSudden_x1_1 a b (y0) (decide (y0 < 200)) (y1) (y2) (y3) (y4))) := by kernel_rfl
noncomputable def S.MetricSudden_l1 (fu : Nat) (a b : Int) : Nat → (Int) → (Cf) → (Bool) → (Rg) → (Rg) → Option ((Cf × Bool × Rg × Rg) ⊕ (Int × Bool × Cf × Bool × Rg × Rg))
  | 0, _, _, _, _, _ => none
  | n + 1, y0, y1, y2, y3, y4 =>
    bif decide (y0 < 200) then
   (optK (S.q_mput y1 y2 y3 y4 y0 (Go.IntKind.wrap .i64 (Int.tmod (Go.IntKind.wrap .u64 b) 1000000))) fun o3 =>
   bif !decide (o3.1 = 0) then
   some (.inl (o3.2.1, o3.2.2.1, o3.2.2.2.1, o3.2.2.2.2))
 else
   (optK (S.q_mmeans o3.2.1 o3.2.2.1 o3.2.2.2.1 o3.2.2.2.2 y0) fun o5 =>
   bif !decide (o5.1 = Go.IntKind.wrap .i64 (Int.tdiv (Go.IntKind.wrap .i64 (Go.IntKind.wrap .i64 ((if 60 < Go.IntKind.wrap .i64 (y0 - 99) then 60 else Go.IntKind.wrap .i64 (y0 - 99)) * Go.IntKind.wrap .i64 (Int.tmod (Go.IntKind.wrap .u64 b) 1000000)) + Go.IntKind.wrap .i64 (Go.IntKind.wrap .i64 (60 - if 60 < Go.IntKind.wrap .i64 (y0 - 99) then 60 else Go.IntKind.wrap .i64 (y0 - 99)) * Go.IntKind.wrap .i64 (Int.tmod (Go.IntKind.wrap .u64 a) 1000000)))) 60)) then
   some (.inl (o5.2.2.1, o5.2.2.2.1, o5.2.2.2.2.1, o5.2.2.2.2.2))
 else
   bif !decide (o5.2.1 = Go.IntKind.wrap .i64 (Int.tdiv (Go.IntKind.wrap .i64 (Go.IntKind.wrap .i64 ((if 6 < Go.IntKind.wrap .i64 (y0 - 99) then 6 else Go.IntKind.wrap .i64 (y0 - 99)) * Go.IntKind.wrap .i64 (Int.tmod (Go.IntKind.wrap .u64 b) 1000000)) + Go.IntKind.wrap .i64 (Go.IntKind.wrap .i64 (6 - if 6 < Go.IntKind.wrap .i64 (y0 - 99) then 6 else Go.IntKind.wrap .i64 (y0 - 99)) * Go.IntKind.wrap .i64 (Int.tmod (Go.IntKind.wrap .u64 a) 1000000)))) 6)) then
   some (.inl (o5.2.2.1, o5.2.2.2.1, o5.2.2.2.2.1, o5.2.2.2.2.2))
 else
   (S.MetricSudden_l1 fu a b n) (Go.IntKind.wrap .i64 (y0 + 1)) (o5.2.2.1) (o5.2.2.2.1) (o5.2.2.2.2.1) (o5.2.2.2.2.2)))
 else
   some (.inr (y0, decide (y0 < 200), y1, y2, y3, y4))
theorem S.MetricSudden_l1_v {R : Type} (fu : Nat) (a b : Int) (K : Ex → St → Option R) : ∀ (n : Nat) (y0 : Int) (y1 : Cf) (y2 : Bool) (y3 : Rg) (y4 : Rg), loopRun (C_MetricSudden fu a b) G16s S.MetricSudden_b1 n (S.MetricSudden_s1 a b (y0) (y1) (y2) (y3) (y4)) K = oK (β := (Cf × Bool × Rg × Rg) ⊕ (Int × Bool × Cf × Bool × Rg × Rg)) (S.MetricSudden_g1 a b K) (S.MetricSudden_l1 fu a b n y0 y1 y2 y3 y4)
  | 0, _, _, _, _, _ => rfl
  | n + 1, y0, y1, y2, y3, y4 => (S.MetricSudden_l1_k fu a b n K y0 y1 y2 y3 y4).trans (bif_lift (f := (oK (S.MetricSudden_g1 a b K))) (opt_lift fun o3 => (bif_lift (f := (oK (S.MetricSudden_g1 a b K))) rfl (opt_lift fun o5 => (bif_lift (f := (oK (S.MetricSudden_g1 a b K))) rfl (bif_lift (f := (oK (S.MetricSudden_g1 a b K))) rfl (S.MetricSudden_l1_v fu a b K n (Go.IntKind.wrap .i64 (y0 + 1)) (o5.2.2.1) (o5.2.2.2.1) (o5.2.2.2.2.1) (o5.2.2.2.2.2))))))) rfl)
theorem S.MetricSudden_a1_1_k {R : Type} (fu : Nat) (a b : Int) (z0 : Int) (z1 : Bool) (z2 : Cf) (z3 : Bool) (z4 : Rg) (z5 : Rg) (k : AVal → List Blk → Option R) : contOf (C_MetricSudden fu a b) G16s (bodyOf Try.f4) [1, 1, 1, 1, 1, 1, 0, 1, 0] (retK tis F4 Try.f4 (List.length ([] : List Blk)) k) (Ex.exit 2) (S.MetricSudden_x1_1 a b (z0) (z1) (z2) (z3) (z4) (z5)) =
  (k (.bool true) ([])) := by kernel_rfl
noncomputable def S.MetricSudden_a1_1 (fu : Nat) (a b : Int) (z0 : Int) (z1 : Bool) (z2 : Cf) (z3 : Bool) (z4 : Rg) (z5 : Rg) : Option (Bool) :=
  some (true)
theorem S.MetricSudden_a1_1_v {R : Type} (fu : Nat) (a b : Int) (z0 : Int) (z1 : Bool) (z2 : Cf) (z3 : Bool) (z4 : Rg) (z5 : Rg) (k : AVal → List Blk → Option R) : contOf (C_MetricSudden fu a b) G16s (bodyOf Try.f4) [1, 1, 1, 1, 1, 1, 0, 1, 0] (retK tis F4 Try.f4 (List.length ([] : List Blk)) k) (Ex.exit 2) (S.MetricSudden_x1_1 a b (z0) (z1) (z2) (z3) (z4) (z5)) = oK (S.MetricSudden_gk a b k) (S.MetricSudden_a1_1 fu a b z0 z1 z2 z3 z4 z5) :=
  (S.MetricSudden_a1_1_k fu a b z0 z1 z2 z3 z4 z5 k).trans rfl
theorem S.MetricSudden_a1_0_k {R : Type} (fu : Nat) (a b : Int) (z0 : Cf) (z1 : Bool) (z2 : Rg) (z3 : Rg) (k : AVal → List Blk → Option R) : contOf (C_MetricSudden fu a b) G16s (bodyOf Try.f4) [1, 1, 1, 1, 1, 1, 0, 1, 0] (retK tis F4 Try.f4 (List.length ([] : List Blk)) k) (Ex.ret) (S.MetricSudden_x1_0 a b (z0) (z1) (z2) (z3)) =
  (k (.bool false) ([])) := by kernel_rfl
noncomputable def S.MetricSudden_a1_0 (fu : Nat) (a b : Int) (z0 : Cf) (z1 : Bool) (z2 : Rg) (z3 : Rg) : Option (Bool) :=
  some (false)
theorem S.MetricSudden_a1_0_v {R : Type} (fu : Nat) (a b : Int) (z0 : Cf) (z1 : Bool) (z2 : Rg) (z3 : Rg) (k : AVal → List Blk → Option R) : contOf (C_MetricSudden fu a b) G16s (bodyOf Try.f4) [1, 1, 1, 1, 1, 1, 0, 1, 0] (retK tis F4 Try.f4 (List.length ([] : List Blk)) k) (Ex.ret) (S.MetricSudden_x1_0 a b (z0) (z1) (z2) (z3)) = oK (S.MetricSudden_gk a b k) (S.MetricSudden_a1_0 fu a b z0 z1 z2 z3) :=
  (S.MetricSudden_a1_0_k fu a b z0 z1 z2 z3 k).trans rfl
theorem S.MetricSudden_l0_k {R : Type} (fu : Nat) (a b : Int) (n : Nat) (K : Ex → St → Option R) (y0 : Int) (y1 : Cf) (y2 : Bool) (y3 : Rg) (y4 : Rg) : loopRun (C_MetricSudden fu a b) G16s S.MetricSudden_b0 (n + 1) (S.MetricSudden_s0 a b (y0) (y1) (y2) (y3) (y4)) K =
  (bif decide (y0 < 100) then
   (optK (S.q_mput y1 y2 y3 y4 y0 (Go.IntKind.wrap .i64 (Int.tmod (Go.IntKind.wrap .u64 a) 1000000))) fun o3 =>
   bif !decide (o3.1 = 0) then
   K (Ex.ret) (S.MetricSudden_x0_0 a b (o3.2.1) (o3.2.2.1) (o3.2.2.2.1) (o3.2.2.2.2))
 else
   loopRun (C_MetricSudden fu a b) G16s S.MetricSudden_b0 n (S.MetricSudden_s0 a b (Go.IntKind.wrap .i64 (y0 + 1)) (o3.2.1) (o3.2.2.1) (o3.2.2.2.1) (o3.2.2.2.2)) K)
 else
   K (Ex.exit 0) (S.MetricSudden_x0_1 a b (y0) (decide (y0 < 100)) (y1) (y2) (y3) (y4))) := by kernel_rfl
noncomputable def S.MetricSudden_l0 (fu : Nat) (a b : Int) : Nat → (Int) → (Cf) → (Bool) → (Rg) → (Rg) → Option ((Cf × Bool × Rg × Rg) ⊕ (Int × Bool × Cf × Bool × Rg × Rg))
  | 0, _, _, _, _, _ => none
  | n + 1, y0, y1, y2, y3, y4 =>
    bif decide (y0 < 100) then
   (optK (S.q_mput y1 y2 y3 y4 y0 (Go.IntKind.wrap .i64 (Int.tmod (Go.IntKind.wrap .u64 a) 1000000))) fun o3 =>
   bif !decide (o3.1 = 0) then
   some (.inl (o3.2.1, o3.2.2.1, o3.2.2.2.1, o3.2.2.2.2))
 else
   (S.MetricSudden_l0 fu a b n) (Go.IntKind.wrap .i64 (y0 + 1)) (o3.2.1) (o3.2.2.1) (o3.2.2.2.1) (o3.2.2.2.2))
 else
   some (.inr (y0, decide (y0 < 100), y1, y2, y3, y4))
theorem S.MetricSudden_l0_v {R : Type} (fu : Nat) (a b : Int) (K : Ex → St → Option R) : ∀ (n : Nat) (y0 : Int) (y1 : Cf) (y2 : Bool) (y3 : Rg) (y4 : Rg), loopRun (C_MetricSudden fu a b) G16s S.MetricSudden_b0 n (S.MetricSudden_s0 a b (y0) (y1) (y2) (y3) (y4)) K = oK (β := (Cf × Bool × Rg × Rg) ⊕ (Int × Bool × Cf × Bool × Rg × Rg)) (S.MetricSudden_g0 a b K) (S.MetricSudden_l0 fu a b n y0 y1 y2 y3 y4)
  | 0, _, _, _, _, _ => rfl
  | n + 1, y0, y1, y2, y3, y4 => (S.MetricSudden_l0_k fu a b n K y0 y1 y2 y3 y4).trans (bif_lift (f := (oK (S.MetricSudden_g0 a b K))) (opt_lift fun o3 => (bif_lift (f := (oK (S.MetricSudden_g0 a b K))) rfl (S.MetricSudden_l0_v fu a b K n (Go.IntKind.wrap .i64 (y0 + 1)) (o3.2.1) (o3.2.2.1) (o3.2.2.2.1) (o3.2.2.2.2)))) rfl)
theorem S.MetricSudden_a0_1_k {R : Type} (fu : Nat) (a b : Int) (z0 : Int) (z1 : Bool) (z2 : Cf) (z3 : Bool) (z4 : Rg) (z5 : Rg) (k : AVal → List Blk → Option R) : contOf (C_MetricSudden fu a b) G16s (bodyOf Try.f4) [1, 1, 1, 1, 1, 0, 1, 0] (retK tis F4 Try.f4 (List.length ([] : List Blk)) k) (Ex.exit 0) (S.MetricSudden_x0_1 a b (z0) (z1) (z2) (z3) (z4) (z5)) =
  (loopRun (C_MetricSudden fu a b) G16s S.MetricSudden_b1 fu (S.MetricSudden_s1 a b (100) (z2) (z3) (z4) (z5)) (contOf (C_MetricSudden fu a b) G16s (bodyOf Try.f4) [1, 1, 1, 1, 1, 1, 0, 1, 0] (retK tis F4 Try.f4 (List.length ([] : List Blk)) k))) := by kernel_rfl
noncomputable def S.MetricSudden_a0_1 (fu : Nat) (a b : Int) (z0 : Int) (z1 : Bool) (z2 : Cf) (z3 : Bool) (z4 : Rg) (z5 : Rg) : Option (Bool) :=
  optK (S.MetricSudden_l1 fu a b fu (100) (z2) (z3) (z4) (z5)) (Sum.elim (fun z : Cf × Bool × Rg × Rg => S.MetricSudden_a1_0 fu a b (z.1) (z.2.1) (z.2.2.1) (z.2.2.2)) (fun z : Int × Bool × Cf × Bool × Rg × Rg => S.MetricSudden_a1_1 fu a b (z.1) (z.2.1) (z.2.2.1) (z.2.2.2.1) (z.2.2.2.2.1) (z.2.2.2.2.2)))
theorem S.MetricSudden_a0_1_v {R : Type} (fu : Nat) (a b : Int) (z0 : Int) (z1 : Bool) (z2 : Cf) (z3 : Bool) (z4 : Rg) (z5 : Rg) (k : AVal → List Blk → Option R) : contOf (C_MetricSudden fu a b) G16s (bodyOf Try.f4) [1, 1, 1, 1, 1, 0, 1, 0] (retK tis F4 Try.f4 (List.length ([] : List Blk)) k) (Ex.exit 0) (S.MetricSudden_x0_1 a b (z0) (z1) (z2) (z3) (z4) (z5)) = oK (S.MetricSudden_gk a b k) (S.MetricSudden_a0_1 fu a b z0 z1 z2 z3 z4 z5) :=
  (S.MetricSudden_a0_1_k fu a b z0 z1 z2 z3 z4 z5 k).trans (arr_lift (S.MetricSudden_l1_v fu a b (contOf (C_MetricSudden fu a b) G16s (bodyOf Try.f4) [1, 1, 1, 1, 1, 1, 0, 1, 0] (retK tis F4 Try.f4 (List.length ([] : List Blk)) k)) fu (100) (z2) (z3) (z4) (z5)) ((sum_lift (fun z => S.MetricSudden_a1_0_v fu a b (z.1) (z.2.1) (z.2.2.1) (z.2.2.2) k) (fun z => S.MetricSudden_a1_1_v fu a b (z.1) (z.2.1) (z.2.2.1) (z.2.2.2.1) (z.2.2.2.2.1) (z.2.2.2.2.2) k))))
theorem S.MetricSudden_a0_0_k {R : Type} (fu : Nat) (a b : Int) (z0 : Cf) (z1 : Bool) (z2 : Rg) (z3 : Rg) (k : AVal → List Blk → Option R) : contOf (C_MetricSudden fu a b) G16s (bodyOf Try.f4) [1, 1, 1, 1, 1, 0, 1, 0] (retK tis F4 Try.f4 (List.length ([] : List Blk)) k) (Ex.ret) (S.MetricSudden_x0_0 a b (z0) (z1) (z2) (z3)) =
  (k (.bool false) ([])) := by kernel_rfl
noncomputable def S.MetricSudden_a0_0 (fu : Nat) (a b : Int) (z0 : Cf) (z1 : Bool) (z2 : Rg) (z3 : Rg) : Option (Bool) :=
  some (false)
theorem S.MetricSudden_a0_0_v {R : Type} (fu : Nat) (a b : Int) (z0 : Cf) (z1 : Bool) (z2 : Rg) (z3 : Rg) (k : AVal → List Blk → Option R) : contOf (C_MetricSudden fu a b) G16s (bodyOf Try.f4) [1, 1, 1, 1, 1, 0, 1, 0] (retK tis F4 Try.f4 (List.length ([] : List Blk)) k) (Ex.ret) (S.MetricSudden_x0_0 a b (z0) (z1) (z2) (z3)) = oK (S.MetricSudden_gk a b k) (S.MetricSudden_a0_0 fu a b z0 z1 z2 z3) :=
  (S.MetricSudden_a0_0_k fu a b z0 z1 z2 z3 k).trans rfl
theorem S.MetricSudden_k {R : Type} (fu : Nat) (a b : Int) (k : AVal → List Blk → Option R) : fnEval tis F4 fu G16s Try.f4 [.int .i64 a, .int .i64 b] [] k =
  ((optK (S.q_mnew_p (Cf.mk 10000 700 60 6 1 2000 10000 2000 0 0 1 30 0 20000 10 100 60 3 0 0)) fun o2 =>
   (Sum.elim (fun o3 : Unit =>
    k (.bool false) ([])) (fun o3 : Cf × Rg × Rg =>
    loopRun (C_MetricSudden fu a b) G16s S.MetricSudden_b0 fu (S.MetricSudden_s0 a b (0) (o3.1) (false) (o3.2.1) (o3.2.2)) (contOf (C_MetricSudden fu a b) G16s (bodyOf Try.f4) [1, 1, 1, 1, 1, 0, 1, 0] (retK tis F4 Try.f4 (List.length ([] : List Blk)) k))) (o2)))) := by kernel_rfl
noncomputable def S.MetricSudden (fu : Nat) (a b : Int) : Option (Bool) :=
  (optK (S.q_mnew_p (Cf.mk 10000 700 60 6 1 2000 10000 2000 0 0 1 30 0 20000 10 100 60 3 0 0)) fun o2 =>
   (Sum.elim (fun o3 : Unit =>
    some (false)) (fun o3 : Cf × Rg × Rg =>
    optK (S.MetricSudden_l0 fu a b fu (0) (o3.1) (false) (o3.2.1) (o3.2.2)) (Sum.elim (fun z : Cf × Bool × Rg × Rg => S.MetricSudden_a0_0 fu a b (z.1) (z.2.1) (z.2.2.1) (z.2.2.2)) (fun z : Int × Bool × Cf × Bool × Rg × Rg => S.MetricSudden_a0_1 fu a b (z.1) (z.2.1) (z.2.2.1) (z.2.2.2.1) (z.2.2.2.2.1) (z.2.2.2.2.2)))) (o2)))
theorem S.MetricSudden_v {R : Type} (fu : Nat) (a b : Int) (k : AVal → List Blk → Option R) : fnEval tis F4 fu G16s Try.f4 [.int .i64 a, .int .i64 b] [] k = oK (fun v : Bool => k (.bool v) []) (S.MetricSudden fu a b) :=
  (S.MetricSudden_k fu a b k).trans (by
      unfold S.MetricSudden
      refine opt_lift fun o2 => ?_
      refine sumF_lift (f := (oK (S.MetricSudden_gk a b k))) (fun o3 => ?_) (fun o3 => ?_) _
      · 
        exact rfl
      · 
        exact (arr_lift (S.MetricSudden_l0_v fu a b (contOf (C_MetricSudden fu a b) G16s (bodyOf Try.f4) [1, 1, 1, 1, 1, 0, 1, 0] (retK tis F4 Try.f4 (List.length ([] : List Blk)) k)) fu (0) (o3.1) (false) (o3.2.1) (o3.2.2)) ((sum_lift (fun z => S.MetricSudden_a0_0_v fu a b (z.1) (z.2.1) (z.2.2.1) (z.2.2.2) k) (fun z => S.MetricSudden_a0_1_v fu a b (z.1) (z.2.1) (z.2.2.1) (z.2.2.2.1) (z.2.2.2.2.1) (z.2.2.2.2.2) k))))
      )
noncomputable def H4 : Hnd := fun R args σ k => match args, σ with
  | [.int .i64 a, .int .i64 b], [] => oK (fun v : Bool => k (.bool v) []) (S.MetricSudden 100000 a b)
  | _, _ => none
theorem H4_ok : HndOk Try.prog 4 H4 := hnd_ok tis tisOk mixOk G16s_ok F4 Try.func4 rfl (by
  intro R args σ k r h
  unfold H4 at h
  split at h
  · rename_i a b; exact ⟨100000, (S.MetricSudden_v 100000 a b _).trans h⟩
  · cases h)
noncomputable def G4 : Env := Env.add 4 H4 G16s
theorem G4_ok : EnvOk Try.prog G4 := envAdd_ok H4_ok G16s_ok
end Go.Proofs.Ytdflpflffccmgaa.AB
