/- MetricKeeps, as a plain function. -/
import Derived.Test.YtdflpflffccmgaaSmetricz
namespace Go.Proofs.Ytdflpflffccmgaa.AB
set_option linter.unusedVariables false

/-! spinnakerlaw11.MetricKeeps -/
def F5 : FCfg := ⟨keepAt [(0, [0, 1, 2]), (1, [0, 1, 2, 7]), (2, [0, 1, 2, 7, 8]), (3, [0, 1, 2, 7, 8, 22]), (4, [6]), (5, [0, 1, 2, 7, 8, 9]), (6, [0, 1, 2, 7, 8, 9, 10]), (7, [0, 1, 2, 7, 8, 9, 10, 30]), (8, [0, 1, 2, 7, 8, 9, 10]), (9, [0, 1, 2, 7, 8, 9, 10, 43]), (10, [6]), (11, [0, 1, 2, 7, 8, 9, 10]), (12, [1, 2, 7, 8, 9, 11, 12]), (13, [1, 2, 8, 9, 11, 12, 13]), (14, [8, 9, 11, 12, 13]), (15, [8, 9, 11, 12, 13, 14]), (16, [8, 9, 11, 12, 13, 14, 15, 16]), (17, [8, 9, 11, 12, 13, 14, 15, 16]), (18, [8, 9, 11, 12, 14, 15, 16, 17]), (19, [6])], loopAt [(7, [0, 1, 2, 7, 8, 9, 10], [])], []⟩
noncomputable def C_MetricKeeps (fu : Nat) (l : List Int) (len : Nat) (x y : Int) : Cfg := Cfg.of tis F5 fu (List.length ([.rows (.int .i64) l true] : List Blk)) Try.f5.ntmps
noncomputable def S.MetricKeeps_b0 : Code := codeAt (bodyOf Try.f5) [1, 1, 1, 1, 1, 0, 1, 0, 0]
noncomputable def S.MetricKeeps_s0 (l : List Int) (len : Nat) (x y : Int) (y0 : Int) (y1 : Int) (y2 : Cf) (y3 : Cf) (y4 : Bool) (y5 : Rg) (y6 : Rg) : St := ⟨[(0, (.slice 1 0 (0) (len) none)), (1, (.int .i64 (x))), (2, (.int .i64 (y))), (7, (.ptr 1 (0) 0)), (8, (.ptr 2 (0) 0)), (9, (.int .i64 (y0))), (10, (.int .i64 (y1)))], [(.rows (Cd.int .i64) l true), (.var [(.int .i64 (y2.target)), (.int .i64 (y2.util)), (.int .i64 (y2.stable)), (.int .i64 (y2.panic)), (.int .i64 (y2.grain)), (.int .i64 (y2.threshold)), (.int .i64 (y2.up)), (.int .i64 (y2.down)), (.int .i64 (y2.min)), (.int .i64 (y2.max)), (.int .i64 (y2.initial)), (.int .i64 (y2.grace)), (.int .i64 (y2.delay)), (.int .i64 (y2.burst)), (.int .i64 (y2.limit)), (.int .i64 (y2.queue)), (.int .i64 (y2.timeout)), (.int .i64 (y2.ready)), (.int .i64 (y2.subset)), (.int .i64 (y2.sample))]), (.var [(.int .i64 (y3.target)), (.int .i64 (y3.util)), (.int .i64 (y3.stable)), (.int .i64 (y3.panic)), (.int .i64 (y3.grain)), (.int .i64 (y3.threshold)), (.int .i64 (y3.up)), (.int .i64 (y3.down)), (.int .i64 (y3.min)), (.int .i64 (y3.max)), (.int .i64 (y3.initial)), (.int .i64 (y3.grace)), (.int .i64 (y3.delay)), (.int .i64 (y3.burst)), (.int .i64 (y3.limit)), (.int .i64 (y3.queue)), (.int .i64 (y3.timeout)), (.int .i64 (y3.ready)), (.int .i64 (y3.subset)), (.int .i64 (y3.sample)), (.iface 56 (.ptr 3 (0) 0)), (.iface 56 (.ptr 5 (0) 0)), (.bool (y4))]), (.var [(.slice 1 4 (y5.lo) (y5.len) none), (.int .i64 (y5.w)), (.int .i64 (y5.g)), (.int .i64 (y5.n)), (.int .i64 (y5.nw)), (.bool (y5.ov))]), (.fam 80 (Cd.pair (Cd.int .i64) (Cd.pair (Cd.int .i64) (Cd.pair (Cd.int .i64) Cd.bool))) (y5.l) (y5.f)), (.var [(.slice 1 6 (y6.lo) (y6.len) none), (.int .i64 (y6.w)), (.int .i64 (y6.g)), (.int .i64 (y6.n)), (.int .i64 (y6.nw)), (.bool (y6.ov))]), (.fam 80 (Cd.pair (Cd.int .i64) (Cd.pair (Cd.int .i64) (Cd.pair (Cd.int .i64) Cd.bool))) (y6.l) (y6.f))]⟩
noncomputable def S.MetricKeeps_x0_0 (l : List Int) (len : Nat) (x y : Int) (z0 : Cf) (z1 : Cf) (z2 : Bool) (z3 : Rg) (z4 : Rg) : St := ⟨[(6, (.bool (false)))], [(.rows (Cd.int .i64) l true), (.var [(.int .i64 (z0.target)), (.int .i64 (z0.util)), (.int .i64 (z0.stable)), (.int .i64 (z0.panic)), (.int .i64 (z0.grain)), (.int .i64 (z0.threshold)), (.int .i64 (z0.up)), (.int .i64 (z0.down)), (.int .i64 (z0.min)), (.int .i64 (z0.max)), (.int .i64 (z0.initial)), (.int .i64 (z0.grace)), (.int .i64 (z0.delay)), (.int .i64 (z0.burst)), (.int .i64 (z0.limit)), (.int .i64 (z0.queue)), (.int .i64 (z0.timeout)), (.int .i64 (z0.ready)), (.int .i64 (z0.subset)), (.int .i64 (z0.sample))]), (.var [(.int .i64 (z1.target)), (.int .i64 (z1.util)), (.int .i64 (z1.stable)), (.int .i64 (z1.panic)), (.int .i64 (z1.grain)), (.int .i64 (z1.threshold)), (.int .i64 (z1.up)), (.int .i64 (z1.down)), (.int .i64 (z1.min)), (.int .i64 (z1.max)), (.int .i64 (z1.initial)), (.int .i64 (z1.grace)), (.int .i64 (z1.delay)), (.int .i64 (z1.burst)), (.int .i64 (z1.limit)), (.int .i64 (z1.queue)), (.int .i64 (z1.timeout)), (.int .i64 (z1.ready)), (.int .i64 (z1.subset)), (.int .i64 (z1.sample)), (.iface 56 (.ptr 3 (0) 0)), (.iface 56 (.ptr 5 (0) 0)), (.bool (z2))]), (.var [(.slice 1 7 (z3.lo) (z3.len) none), (.int .i64 (z3.w)), (.int .i64 (z3.g)), (.int .i64 (z3.n)), (.int .i64 (z3.nw)), (.bool (z3.ov))]), .dead, (.var [(.slice 1 8 (z4.lo) (z4.len) none), (.int .i64 (z4.w)), (.int .i64 (z4.g)), (.int .i64 (z4.n)), (.int .i64 (z4.nw)), (.bool (z4.ov))]), .dead, (.fam 80 (Cd.pair (Cd.int .i64) (Cd.pair (Cd.int .i64) (Cd.pair (Cd.int .i64) Cd.bool))) (z3.l) (z3.f)), (.fam 80 (Cd.pair (Cd.int .i64) (Cd.pair (Cd.int .i64) (Cd.pair (Cd.int .i64) Cd.bool))) (z4.l) (z4.f))]⟩
noncomputable def S.MetricKeeps_x0_1 (l : List Int) (len : Nat) (x y : Int) (z0 : Int) (z1 : Int) (z2 : Bool) (z3 : Cf) (z4 : Cf) (z5 : Bool) (z6 : Rg) (z7 : Rg) : St := ⟨[(0, (.slice 1 0 (0) (len) none)), (1, (.int .i64 (x))), (2, (.int .i64 (y))), (7, (.ptr 1 (0) 0)), (8, (.ptr 2 (0) 0)), (9, (.int .i64 (z0))), (10, (.int .i64 (z1))), (30, (.bool (z2)))], [(.rows (Cd.int .i64) l true), (.var [(.int .i64 (z3.target)), (.int .i64 (z3.util)), (.int .i64 (z3.stable)), (.int .i64 (z3.panic)), (.int .i64 (z3.grain)), (.int .i64 (z3.threshold)), (.int .i64 (z3.up)), (.int .i64 (z3.down)), (.int .i64 (z3.min)), (.int .i64 (z3.max)), (.int .i64 (z3.initial)), (.int .i64 (z3.grace)), (.int .i64 (z3.delay)), (.int .i64 (z3.burst)), (.int .i64 (z3.limit)), (.int .i64 (z3.queue)), (.int .i64 (z3.timeout)), (.int .i64 (z3.ready)), (.int .i64 (z3.subset)), (.int .i64 (z3.sample))]), (.var [(.int .i64 (z4.target)), (.int .i64 (z4.util)), (.int .i64 (z4.stable)), (.int .i64 (z4.panic)), (.int .i64 (z4.grain)), (.int .i64 (z4.threshold)), (.int .i64 (z4.up)), (.int .i64 (z4.down)), (.int .i64 (z4.min)), (.int .i64 (z4.max)), (.int .i64 (z4.initial)), (.int .i64 (z4.grace)), (.int .i64 (z4.delay)), (.int .i64 (z4.burst)), (.int .i64 (z4.limit)), (.int .i64 (z4.queue)), (.int .i64 (z4.timeout)), (.int .i64 (z4.ready)), (.int .i64 (z4.subset)), (.int .i64 (z4.sample)), (.iface 56 (.ptr 3 (0) 0)), (.iface 56 (.ptr 5 (0) 0)), (.bool (z5))]), (.var [(.slice 1 4 (z6.lo) (z6.len) none), (.int .i64 (z6.w)), (.int .i64 (z6.g)), (.int .i64 (z6.n)), (.int .i64 (z6.nw)), (.bool (z6.ov))]), (.fam 80 (Cd.pair (Cd.int .i64) (Cd.pair (Cd.int .i64) (Cd.pair (Cd.int .i64) Cd.bool))) (z6.l) (z6.f)), (.var [(.slice 1 6 (z7.lo) (z7.len) none), (.int .i64 (z7.w)), (.int .i64 (z7.g)), (.int .i64 (z7.n)), (.int .i64 (z7.nw)), (.bool (z7.ov))]), (.fam 80 (Cd.pair (Cd.int .i64) (Cd.pair (Cd.int .i64) (Cd.pair (Cd.int .i64) Cd.bool))) (z7.l) (z7.f))]⟩
noncomputable def S.MetricKeeps_g0 {R : Type} (l : List Int) (len : Nat) (x y : Int) (K : Ex → St → Option R) : ((Cf × Cf × Bool × Rg × Rg) ⊕ (Int × Int × Bool × Cf × Cf × Bool × Rg × Rg)) → Option R := (Sum.elim (fun z : Cf × Cf × Bool × Rg × Rg => K (Ex.ret) (S.MetricKeeps_x0_0 l len x y (z.1) (z.2.1) (z.2.2.1) (z.2.2.2.1) (z.2.2.2.2))) (fun z : Int × Int × Bool × Cf × Cf × Bool × Rg × Rg => K (Ex.exit 0) (S.MetricKeeps_x0_1 l len x y (z.1) (z.2.1) (z.2.2.1) (z.2.2.2.1) (z.2.2.2.2.1) (z.2.2.2.2.2.1) (z.2.2.2.2.2.2.1) (z.2.2.2.2.2.2.2))))
noncomputable def S.MetricKeeps_gk {R : Type} (l : List Int) (len : Nat) (x y : Int) (k : AVal → List Blk → Option R) : (Bool) → Option R := (fun v : Bool => k (.bool v) [(.rows (Cd.int .i64) l true)])
theorem S.MetricKeeps_l0_k {R : Type} (fu : Nat) (l : List Int) (len : Nat) (x y : Int) (n : Nat) (K : Ex → St → Option R) (y0 : Int) (y1 : Int) (y2 : Cf) (y3 : Cf) (y4 : Bool) (y5 : Rg) (y6 : Rg) : loopRun (C_MetricKeeps fu l len x y) G16s S.MetricKeeps_b0 (n + 1) (S.MetricKeeps_s0 l len x y (y0) (y1) (y2) (y3) (y4) (y5) (y6)) K =
  (bif decide (y1 < ((len : Nat) : Int)) then
   bif decide (y1 < 60) then
   bif inB y1 len then
   (optK (l[Int.toNat y1 + 0]?) fun o5 =>
   (optK (S.q_mput y3 y4 y5 y6 y1 (Go.IntKind.wrap .i64 (Int.tmod (Go.IntKind.wrap .u64 o5) 1000000))) fun o6 =>
   bif !decide (o6.1 = 0) then
   K (Ex.ret) (S.MetricKeeps_x0_0 l len x y (y2) (o6.2.1) (o6.2.2.1) (o6.2.2.2.1) (o6.2.2.2.2))
 else
   loopRun (C_MetricKeeps fu l len x y) G16s S.MetricKeeps_b0 n (S.MetricKeeps_s0 l len x y (Go.IntKind.wrap .i64 (y0 + 1)) (Go.IntKind.wrap .i64 (y1 + 1)) (y2) (o6.2.1) (o6.2.2.1) (o6.2.2.2.1) (o6.2.2.2.2)) K))
 else
   none
 else
   K (Ex.exit 0) (S.MetricKeeps_x0_1 l len x y (y0) (y1) (decide (y1 < 60)) (y2) (y3) (y4) (y5) (y6))
 else
   K (Ex.exit 0) (S.MetricKeeps_x0_1 l len x y (y0) (y1) (false) (y2) (y3) (y4) (y5) (y6))) := by kernel_rfl
noncomputable def S.MetricKeeps_l0 (fu : Nat) (l : List Int) (len : Nat) (x y : Int) : Nat → (Int) → (Int) → (Cf) → (Cf) → (Bool) → (Rg) → (Rg) → Option ((Cf × Cf × Bool × Rg × Rg) ⊕ (Int × Int × Bool × Cf × Cf × Bool × Rg × Rg))
  | 0, _, _, _, _, _, _, _ => none
  | n + 1, y0, y1, y2, y3, y4, y5, y6 =>
    bif decide (y1 < ((len : Nat) : Int)) then
   bif decide (y1 < 60) then
   bif inB y1 len then
   (optK (l[Int.toNat y1 + 0]?) fun o5 =>
   (optK (S.q_mput y3 y4 y5 y6 y1 (Go.IntKind.wrap .i64 (Int.tmod (Go.IntKind.wrap .u64 o5) 1000000))) fun o6 =>
   bif !decide (o6.1 = 0) then
   some (.inl (y2, o6.2.1, o6.2.2.1, o6.2.2.2.1, o6.2.2.2.2))
 else
   (S.MetricKeeps_l0 fu l len x y n) (Go.IntKind.wrap .i64 (y0 + 1)) (Go.IntKind.wrap .i64 (y1 + 1)) (y2) (o6.2.1) (o6.2.2.1) (o6.2.2.2.1) (o6.2.2.2.2)))
 else
   none
 else
   some (.inr (y0, y1, decide (y1 < 60), y2, y3, y4, y5, y6))
 else
   some (.inr (y0, y1, false, y2, y3, y4, y5, y6))
theorem S.MetricKeeps_l0_v {R : Type} (fu : Nat) (l : List Int) (len : Nat) (x y : Int) (K : Ex → St → Option R) : ∀ (n : Nat) (y0 : Int) (y1 : Int) (y2 : Cf) (y3 : Cf) (y4 : Bool) (y5 : Rg) (y6 : Rg), loopRun (C_MetricKeeps fu l len x y) G16s S.MetricKeeps_b0 n (S.MetricKeeps_s0 l len x y (y0) (y1) (y2) (y3) (y4) (y5) (y6)) K = oK (β := (Cf × Cf × Bool × Rg × Rg) ⊕ (Int × Int × Bool × Cf × Cf × Bool × Rg × Rg)) (S.MetricKeeps_g0 l len x y K) (S.MetricKeeps_l0 fu l len x y n y0 y1 y2 y3 y4 y5 y6)
  | 0, _, _, _, _, _, _, _ => rfl
  | n + 1, y0, y1, y2, y3, y4, y5, y6 => (S.MetricKeeps_l0_k fu l len x y n K y0 y1 y2 y3 y4 y5 y6).trans (bif_lift (f := (oK (S.MetricKeeps_g0 l len x y K))) (bif_lift (f := (oK (S.MetricKeeps_g0 l len x y K))) (bif_lift (f := (oK (S.MetricKeeps_g0 l len x y K))) (opt_lift fun o5 => (opt_lift fun o6 => (bif_lift (f := (oK (S.MetricKeeps_g0 l len x y K))) rfl (S.MetricKeeps_l0_v fu l len x y K n (Go.IntKind.wrap .i64 (y0 + 1)) (Go.IntKind.wrap .i64 (y1 + 1)) (y2) (o6.2.1) (o6.2.2.1) (o6.2.2.2.1) (o6.2.2.2.2))))) rfl) rfl) rfl)
theorem S.MetricKeeps_a0_1_k {R : Type} (fu : Nat) (l : List Int) (len : Nat) (x y : Int) (z0 : Int) (z1 : Int) (z2 : Bool) (z3 : Cf) (z4 : Cf) (z5 : Bool) (z6 : Rg) (z7 : Rg) (k : AVal → List Blk → Option R) : contOf (C_MetricKeeps fu l len x y) G16s (bodyOf Try.f5) [1, 1, 1, 1, 1, 0, 1, 0] (retK tis F5 Try.f5 (List.length ([.rows (.int .i64) l true] : List Blk)) k) (Ex.exit 0) (S.MetricKeeps_x0_1 l len x y (z0) (z1) (z2) (z3) (z4) (z5) (z6) (z7)) =
  ((optK (S.q_mmeans z4 z5 z6 z7 z0) fun o2 =>
   (optK (S.q_mchange o2.2.2.1 o2.2.2.2.1 o2.2.2.2.2.1 o2.2.2.2.2.2 (Cf.mk (Go.IntKind.wrap .i64 (10 + Go.IntKind.wrap .i64 (Int.tmod (Go.IntKind.wrap .u64 x) 1000))) z3.util (Go.IntKind.wrap .i64 (60 + Go.IntKind.wrap .i64 (Int.tmod (Go.IntKind.wrap .u64 y) 100))) z3.panic z3.grain z3.threshold z3.up z3.down z3.min 7 z3.initial z3.grace z3.delay z3.burst z3.limit z3.queue z3.timeout z3.ready z3.subset z3.sample)) fun o3 =>
   (optK (S.q_mmeans o3.2.1 o3.2.2.1 o3.2.2.2.1 o3.2.2.2.2 z0) fun o4 =>
   (optK (S.q_mchange o4.2.2.1 o4.2.2.2.1 o4.2.2.2.2.1 o4.2.2.2.2.2 (Cf.mk (Go.IntKind.wrap .i64 (10 + Go.IntKind.wrap .i64 (Int.tmod (Go.IntKind.wrap .u64 x) 1000))) z3.util (Go.IntKind.wrap .i64 (60 + Go.IntKind.wrap .i64 (Int.tmod (Go.IntKind.wrap .u64 y) 100))) (Go.IntKind.wrap .i64 (61 + Go.IntKind.wrap .i64 (60 + Go.IntKind.wrap .i64 (Int.tmod (Go.IntKind.wrap .u64 y) 100)))) z3.grain z3.threshold z3.up z3.down z3.min 7 z3.initial z3.grace z3.delay z3.burst z3.limit z3.queue z3.timeout z3.ready z3.subset z3.sample)) fun o5 =>
   bif decide (o3.1 = 0) then
   bif decide (59 < z0) then
   bif decide (o4.2.1 = o2.2.1) then
   bif decide (o5.1 = 1) then
   k (.bool !S.mover o5.2.1 o5.2.2.1 o5.2.2.2.1 o5.2.2.2.2) ([.rows (Cd.int .i64) l true])
 else
   k (.bool false) ([.rows (Cd.int .i64) l true])
 else
   k (.bool false) ([.rows (Cd.int .i64) l true])
 else
   bif decide (o4.1 = o2.1) then
   bif decide (o4.2.1 = o2.2.1) then
   bif decide (o5.1 = 1) then
   k (.bool !S.mover o5.2.1 o5.2.2.1 o5.2.2.2.1 o5.2.2.2.2) ([.rows (Cd.int .i64) l true])
 else
   k (.bool false) ([.rows (Cd.int .i64) l true])
 else
   k (.bool false) ([.rows (Cd.int .i64) l true])
 else
   k (.bool false) ([.rows (Cd.int .i64) l true])
 else
   k (.bool false) ([.rows (Cd.int .i64) l true])))))) := by kernel_rfl
noncomputable def S.MetricKeeps_a0_1 (fu : Nat) (l : List Int) (len : Nat) (x y : Int) (z0 : Int) (z1 : Int) (z2 : Bool) (z3 : Cf) (z4 : Cf) (z5 : Bool) (z6 : Rg) (z7 : Rg) : Option (Bool) :=
  (optK (S.q_mmeans z4 z5 z6 z7 z0) fun o2 =>
   (optK (S.q_mchange o2.2.2.1 o2.2.2.2.1 o2.2.2.2.2.1 o2.2.2.2.2.2 (Cf.mk (Go.IntKind.wrap .i64 (10 + Go.IntKind.wrap .i64 (Int.tmod (Go.IntKind.wrap .u64 x) 1000))) z3.util (Go.IntKind.wrap .i64 (60 + Go.IntKind.wrap .i64 (Int.tmod (Go.IntKind.wrap .u64 y) 100))) z3.panic z3.grain z3.threshold z3.up z3.down z3.min 7 z3.initial z3.grace z3.delay z3.burst z3.limit z3.queue z3.timeout z3.ready z3.subset z3.sample)) fun o3 =>
   (optK (S.q_mmeans o3.2.1 o3.2.2.1 o3.2.2.2.1 o3.2.2.2.2 z0) fun o4 =>
   (optK (S.q_mchange o4.2.2.1 o4.2.2.2.1 o4.2.2.2.2.1 o4.2.2.2.2.2 (Cf.mk (Go.IntKind.wrap .i64 (10 + Go.IntKind.wrap .i64 (Int.tmod (Go.IntKind.wrap .u64 x) 1000))) z3.util (Go.IntKind.wrap .i64 (60 + Go.IntKind.wrap .i64 (Int.tmod (Go.IntKind.wrap .u64 y) 100))) (Go.IntKind.wrap .i64 (61 + Go.IntKind.wrap .i64 (60 + Go.IntKind.wrap .i64 (Int.tmod (Go.IntKind.wrap .u64 y) 100)))) z3.grain z3.threshold z3.up z3.down z3.min 7 z3.initial z3.grace z3.delay z3.burst z3.limit z3.queue z3.timeout z3.ready z3.subset z3.sample)) fun o5 =>
   bif decide (o3.1 = 0) then
   bif decide (59 < z0) then
   bif decide (o4.2.1 = o2.2.1) then
   bif decide (o5.1 = 1) then
   some (!S.mover o5.2.1 o5.2.2.1 o5.2.2.2.1 o5.2.2.2.2)
 else
   some (false)
 else
   some (false)
 else
   bif decide (o4.1 = o2.1) then
   bif decide (o4.2.1 = o2.2.1) then
   bif decide (o5.1 = 1) then
   some (!S.mover o5.2.1 o5.2.2.1 o5.2.2.2.1 o5.2.2.2.2)
 else
   some (false)
 else
   some (false)
 else
   some (false)
 else
   some (false)))))
theorem S.MetricKeeps_a0_1_v {R : Type} (fu : Nat) (l : List Int) (len : Nat) (x y : Int) (z0 : Int) (z1 : Int) (z2 : Bool) (z3 : Cf) (z4 : Cf) (z5 : Bool) (z6 : Rg) (z7 : Rg) (k : AVal → List Blk → Option R) : contOf (C_MetricKeeps fu l len x y) G16s (bodyOf Try.f5) [1, 1, 1, 1, 1, 0, 1, 0] (retK tis F5 Try.f5 (List.length ([.rows (.int .i64) l true] : List Blk)) k) (Ex.exit 0) (S.MetricKeeps_x0_1 l len x y (z0) (z1) (z2) (z3) (z4) (z5) (z6) (z7)) = oK (S.MetricKeeps_gk l len x y k) (S.MetricKeeps_a0_1 fu l len x y z0 z1 z2 z3 z4 z5 z6 z7) :=
  (S.MetricKeeps_a0_1_k fu l len x y z0 z1 z2 z3 z4 z5 z6 z7 k).trans (opt_lift fun o2 => (opt_lift fun o3 => (opt_lift fun o4 => (opt_lift fun o5 => (bif_lift (f := (oK (S.MetricKeeps_gk l len x y k))) (bif_lift (f := (oK (S.MetricKeeps_gk l len x y k))) (bif_lift (f := (oK (S.MetricKeeps_gk l len x y k))) (bif_lift (f := (oK (S.MetricKeeps_gk l len x y k))) rfl rfl) rfl) (bif_lift (f := (oK (S.MetricKeeps_gk l len x y k))) (bif_lift (f := (oK (S.MetricKeeps_gk l len x y k))) (bif_lift (f := (oK (S.MetricKeeps_gk l len x y k))) rfl rfl) rfl) rfl)) rfl)))))
theorem S.MetricKeeps_a0_0_k {R : Type} (fu : Nat) (l : List Int) (len : Nat) (x y : Int) (z0 : Cf) (z1 : Cf) (z2 : Bool) (z3 : Rg) (z4 : Rg) (k : AVal → List Blk → Option R) : contOf (C_MetricKeeps fu l len x y) G16s (bodyOf Try.f5) [1, 1, 1, 1, 1, 0, 1, 0] (retK tis F5 Try.f5 (List.length ([.rows (.int .i64) l true] : List Blk)) k) (Ex.ret) (S.MetricKeeps_x0_0 l len x y (z0) (z1) (z2) (z3) (z4)) =
  (k (.bool false) ([.rows (Cd.int .i64) l true])) := by kernel_rfl
noncomputable def S.MetricKeeps_a0_0 (fu : Nat) (l : List Int) (len : Nat) (x y : Int) (z0 : Cf) (z1 : Cf) (z2 : Bool) (z3 : Rg) (z4 : Rg) : Option (Bool) :=
  some (false)
theorem S.MetricKeeps_a0_0_v {R : Type} (fu : Nat) (l : List Int) (len : Nat) (x y : Int) (z0 : Cf) (z1 : Cf) (z2 : Bool) (z3 : Rg) (z4 : Rg) (k : AVal → List Blk → Option R) : contOf (C_MetricKeeps fu l len x y) G16s (bodyOf Try.f5) [1, 1, 1, 1, 1, 0, 1, 0] (retK tis F5 Try.f5 (List.length ([.rows (.int .i64) l true] : List Blk)) k) (Ex.ret) (S.MetricKeeps_x0_0 l len x y (z0) (z1) (z2) (z3) (z4)) = oK (S.MetricKeeps_gk l len x y k) (S.MetricKeeps_a0_0 fu l len x y z0 z1 z2 z3 z4) :=
  (S.MetricKeeps_a0_0_k fu l len x y z0 z1 z2 z3 z4 k).trans rfl
theorem S.MetricKeeps_k {R : Type} (fu : Nat) (l : List Int) (len : Nat) (x y : Int) (k : AVal → List Blk → Option R) : fnEval tis F5 fu G16s Try.f5 [.slice 1 0 0 len none, .int .i64 x, .int .i64 y] [.rows (.int .i64) l true] k =
  ((optK (S.q_mnew_p (Cf.mk 10000 700 60 6 1 2000 10000 2000 0 0 1 30 0 20000 10 100 60 3 0 0)) fun o2 =>
   (Sum.elim (fun o3 : Unit =>
    k (.bool false) ([.rows (Cd.int .i64) l true])) (fun o3 : Cf × Rg × Rg =>
    loopRun (C_MetricKeeps fu l len x y) G16s S.MetricKeeps_b0 fu (S.MetricKeeps_s0 l len x y (0) (0) ((⟨10000, 700, 60, 6, 1, 2000, 10000, 2000, 0, 0, 1, 30, 0, 20000, 10, 100, 60, 3, 0, 0⟩ : Cf)) (o3.1) (false) (o3.2.1) (o3.2.2)) (contOf (C_MetricKeeps fu l len x y) G16s (bodyOf Try.f5) [1, 1, 1, 1, 1, 0, 1, 0] (retK tis F5 Try.f5 (List.length ([.rows (.int .i64) l true] : List Blk)) k))) (o2)))) := by kernel_rfl
noncomputable def S.MetricKeeps (fu : Nat) (l : List Int) (len : Nat) (x y : Int) : Option (Bool) :=
  (optK (S.q_mnew_p (Cf.mk 10000 700 60 6 1 2000 10000 2000 0 0 1 30 0 20000 10 100 60 3 0 0)) fun o2 =>
   (Sum.elim (fun o3 : Unit =>
    some (false)) (fun o3 : Cf × Rg × Rg =>
    optK (S.MetricKeeps_l0 fu l len x y fu (0) (0) ((⟨10000, 700, 60, 6, 1, 2000, 10000, 2000, 0, 0, 1, 30, 0, 20000, 10, 100, 60, 3, 0, 0⟩ : Cf)) (o3.1) (false) (o3.2.1) (o3.2.2)) (Sum.elim (fun z : Cf × Cf × Bool × Rg × Rg => S.MetricKeeps_a0_0 fu l len x y (z.1) (z.2.1) (z.2.2.1) (z.2.2.2.1) (z.2.2.2.2)) (fun z : Int × Int × Bool × Cf × Cf × Bool × Rg × Rg => S.MetricKeeps_a0_1 fu l len x y (z.1) (z.2.1) (z.2.2.1) (z.2.2.2.1) (z.2.2.2.2.1) (z.2.2.2.2.2.1) (z.2.2.2.2.2.2.1) (z.2.2.2.2.2.2.2)))) (o2)))
theorem S.MetricKeeps_v {R : Type} (fu : Nat) (l : List Int) (len : Nat) (x y : Int) (k : AVal → List Blk → Option R) : fnEval tis F5 fu G16s Try.f5 [.slice 1 0 0 len none, .int .i64 x, .int .i64 y] [.rows (.int .i64) l true] k = oK (fun v : Bool => k (.bool v) [(.rows (Cd.int .i64) l true)]) (S.MetricKeeps fu l len x y) :=
  (S.MetricKeeps_k fu l len x y k).trans (by
      unfold S.MetricKeeps
      refine opt_lift fun o2 => ?_
      refine sumF_lift (f := (oK (S.MetricKeeps_gk l len x y k))) (fun o3 => ?_) (fun o3 => ?_) _
      · 
        exact rfl
      · 
        exact (arr_lift (S.MetricKeeps_l0_v fu l len x y (contOf (C_MetricKeeps fu l len x y) G16s (bodyOf Try.f5) [1, 1, 1, 1, 1, 0, 1, 0] (retK tis F5 Try.f5 (List.length ([.rows (.int .i64) l true] : List Blk)) k)) fu (0) (0) ((⟨10000, 700, 60, 6, 1, 2000, 10000, 2000, 0, 0, 1, 30, 0, 20000, 10, 100, 60, 3, 0, 0⟩ : Cf)) (o3.1) (false) (o3.2.1) (o3.2.2)) ((sum_lift (fun z => S.MetricKeeps_a0_0_v fu l len x y (z.1) (z.2.1) (z.2.2.1) (z.2.2.2.1) (z.2.2.2.2) k) (fun z => S.MetricKeeps_a0_1_v fu l len x y (z.1) (z.2.1) (z.2.2.1) (z.2.2.2.1) (z.2.2.2.2.1) (z.2.2.2.2.2.1) (z.2.2.2.2.2.2.1) (z.2.2.2.2.2.2.2) k))))
      )
noncomputable def H5 : Hnd := fun R args σ k => match args, σ with
  | [.slice 1 0 0 len none, .int .i64 x, .int .i64 y], [.rows (.int .i64) l true] => oK (fun v : Bool => k (.bool v) [(.rows (Cd.int .i64) l true)]) (S.MetricKeeps 100000 l len x y)
  | _, _ => none
theorem H5_ok : HndOk Try.prog 5 H5 := hnd_ok tis tisOk mixOk G16s_ok F5 Try.func5 rfl (by
  intro R args σ k r h
  unfold H5 at h
  split at h
  · rename_i len x y l; exact ⟨100000, (S.MetricKeeps_v 100000 l len x y _).trans h⟩
  · cases h)
noncomputable def G5 : Env := Env.add 5 H5 G16s
theorem G5_ok : EnvOk Try.prog G5 := envAdd_ok H5_ok G16s_ok
end Go.Proofs.Ytdflpflffccmgaa.AB
