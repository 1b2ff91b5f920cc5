/- MetricPlays, as a plain function. -/
import Derived.Test.YtdflpflffccmgaaSmetricz
namespace Go.Proofs.Ytdflpflffccmgaa.AB
set_option linter.unusedVariables false
abbrev OL : Type := List (Int × Int × Int × Int × Int × Int × Int × Int × Int × Int × Int × Int × Int × Int × Int × Int × Int × Int × Int × Int × Int × Int × Int)

/-! spinnakerlaw11.MetricPlays -/
def F3 : FCfg := ⟨keepAt [(0, [1, 2]), (1, [1, 5, 6]), (2, [1, 5, 6, 16]), (3, [4]), (4, [1, 5, 6, 23]), (5, [4]), (6, [1, 5, 6, 26]), (7, [4]), (8, [1, 5, 6, 7]), (9, [1, 5, 6, 7, 31]), (10, [1, 5, 6, 7]), (11, [1, 5, 6, 7, 8]), (12, [1, 5, 6, 7, 8, 40]), (13, [1, 5, 6, 7, 67]), (14, [4]), (15, [1, 5, 6, 7, 68]), (16, [1, 5, 6, 7, 85]), (17, [4]), (18, [1, 5, 6, 7, 9, 10]), (19, [1, 5, 6, 7, 128]), (20, [4]), (21, [4])], loopAt [(9, [1, 5, 6, 7], [])], []⟩
noncomputable def C_MetricPlays (fu : Nat) (c : Cf) (l : OL) (len : Nat) : Cfg := Cfg.of tis F3 fu (List.length ([.rows (.pair (.int .i64) (.pair (.int .i64) (.pair (.int .i64) (.pair (.int .i64) (.pair (.int .i64) (.pair (.int .i64) (.pair (.int .i64) (.pair (.int .i64) (.pair (.int .i64) (.pair (.int .i64) (.pair (.int .i64) (.pair (.int .i64) (.pair (.int .i64) (.pair (.int .i64) (.pair (.int .i64) (.pair (.int .i64) (.pair (.int .i64) (.pair (.int .i64) (.pair (.int .i64) (.pair (.int .i64) (.pair (.int .i64) (.pair (.int .i64) (.int .i64))))))))))))))))))))))) l true] : List Blk)) Try.f3.ntmps
noncomputable def S.MetricPlays_b0 : Code := codeAt (bodyOf Try.f3) [1, 1, 1, 1, 1, 0, 1, 0, 0]
noncomputable def S.MetricPlays_s0 (c : Cf) (l : OL) (len : Nat) (y0 : Int) (y1 : Cf) (y2 : Bool) (y3 : Rg) (y4 : Rg) (y5 : Rr) (y6 : Rr) : St := ⟨[(1, (.slice 23 0 (0) (len) none)), (5, (.ptr 1 (0) 0)), (6, (.ptr 6 (0) 0)), (7, (.int .i64 (y0)))], [(.rows (Cd.pair (Cd.int .i64) (Cd.pair (Cd.int .i64) (Cd.pair (Cd.int .i64) (Cd.pair (Cd.int .i64) (Cd.pair (Cd.int .i64) (Cd.pair (Cd.int .i64) (Cd.pair (Cd.int .i64) (Cd.pair (Cd.int .i64) (Cd.pair (Cd.int .i64) (Cd.pair (Cd.int .i64) (Cd.pair (Cd.int .i64) (Cd.pair (Cd.int .i64) (Cd.pair (Cd.int .i64) (Cd.pair (Cd.int .i64) (Cd.pair (Cd.int .i64) (Cd.pair (Cd.int .i64) (Cd.pair (Cd.int .i64) (Cd.pair (Cd.int .i64) (Cd.pair (Cd.int .i64) (Cd.pair (Cd.int .i64) (Cd.pair (Cd.int .i64) (Cd.pair (Cd.int .i64) (Cd.int .i64))))))))))))))))))))))) l true), (.var [(.int .i64 (y1.target)), (.int .i64 (y1.util)), (.int .i64 (y1.stable)), (.int .i64 (y1.panic)), (.int .i64 (y1.grain)), (.int .i64 (y1.threshold)), (.int .i64 (y1.up)), (.int .i64 (y1.down)), (.int .i64 (y1.min)), (.int .i64 (y1.max)), (.int .i64 (y1.initial)), (.int .i64 (y1.grace)), (.int .i64 (y1.delay)), (.int .i64 (y1.burst)), (.int .i64 (y1.limit)), (.int .i64 (y1.queue)), (.int .i64 (y1.timeout)), (.int .i64 (y1.ready)), (.int .i64 (y1.subset)), (.int .i64 (y1.sample)), (.iface 56 (.ptr 2 (0) 0)), (.iface 56 (.ptr 4 (0) 0)), (.bool (y2))]), (.var [(.slice 1 3 (y3.lo) (y3.len) none), (.int .i64 (y3.w)), (.int .i64 (y3.g)), (.int .i64 (y3.n)), (.int .i64 (y3.nw)), (.bool (y3.ov))]), (.fam 80 (Cd.pair (Cd.int .i64) (Cd.pair (Cd.int .i64) (Cd.pair (Cd.int .i64) Cd.bool))) (y3.l) (y3.f)), (.var [(.slice 1 5 (y4.lo) (y4.len) none), (.int .i64 (y4.w)), (.int .i64 (y4.g)), (.int .i64 (y4.n)), (.int .i64 (y4.nw)), (.bool (y4.ov))]), (.fam 80 (Cd.pair (Cd.int .i64) (Cd.pair (Cd.int .i64) (Cd.pair (Cd.int .i64) Cd.bool))) (y4.l) (y4.f)), (.var [(.ptr 7 (0) 0), (.ptr 9 (0) 0)]), (.var [(.int .i64 (y5.w)), (.int .i64 (y5.g)), (.slice 2 8 (y5.lo) (y5.len) none), (.int .i64 (y5.nw)), (.bool (y5.ov))]), (.rows (Cd.pair (Cd.int .i64) (Cd.int .i64)) (y5.r) false), (.var [(.int .i64 (y6.w)), (.int .i64 (y6.g)), (.slice 2 10 (y6.lo) (y6.len) none), (.int .i64 (y6.nw)), (.bool (y6.ov))]), (.rows (Cd.pair (Cd.int .i64) (Cd.int .i64)) (y6.r) false)]⟩
noncomputable def S.MetricPlays_x0_0 (c : Cf) (l : OL) (len : Nat) (z0 : Cf) (z1 : Bool) (z2 : Rg) (z3 : Rg) (z4 : Rr) (z5 : Rr) : St := ⟨[(4, (.bool (false)))], [(.rows (Cd.pair (Cd.int .i64) (Cd.pair (Cd.int .i64) (Cd.pair (Cd.int .i64) (Cd.pair (Cd.int .i64) (Cd.pair (Cd.int .i64) (Cd.pair (Cd.int .i64) (Cd.pair (Cd.int .i64) (Cd.pair (Cd.int .i64) (Cd.pair (Cd.int .i64) (Cd.pair (Cd.int .i64) (Cd.pair (Cd.int .i64) (Cd.pair (Cd.int .i64) (Cd.pair (Cd.int .i64) (Cd.pair (Cd.int .i64) (Cd.pair (Cd.int .i64) (Cd.pair (Cd.int .i64) (Cd.pair (Cd.int .i64) (Cd.pair (Cd.int .i64) (Cd.pair (Cd.int .i64) (Cd.pair (Cd.int .i64) (Cd.pair (Cd.int .i64) (Cd.pair (Cd.int .i64) (Cd.int .i64))))))))))))))))))))))) l true), (.var [(.int .i64 (z0.target)), (.int .i64 (z0.util)), (.int .i64 (z0.stable)), (.int .i64 (z0.panic)), (.int .i64 (z0.grain)), (.int .i64 (z0.threshold)), (.int .i64 (z0.up)), (.int .i64 (z0.down)), (.int .i64 (z0.min)), (.int .i64 (z0.max)), (.int .i64 (z0.initial)), (.int .i64 (z0.grace)), (.int .i64 (z0.delay)), (.int .i64 (z0.burst)), (.int .i64 (z0.limit)), (.int .i64 (z0.queue)), (.int .i64 (z0.timeout)), (.int .i64 (z0.ready)), (.int .i64 (z0.subset)), (.int .i64 (z0.sample)), (.iface 56 (.ptr 2 (0) 0)), (.iface 56 (.ptr 4 (0) 0)), (.bool (z1))]), (.var [(.slice 1 11 (z2.lo) (z2.len) none), (.int .i64 (z2.w)), (.int .i64 (z2.g)), (.int .i64 (z2.n)), (.int .i64 (z2.nw)), (.bool (z2.ov))]), .dead, (.var [(.slice 1 12 (z3.lo) (z3.len) none), (.int .i64 (z3.w)), (.int .i64 (z3.g)), (.int .i64 (z3.n)), (.int .i64 (z3.nw)), (.bool (z3.ov))]), .dead, (.var [(.ptr 7 (0) 0), (.ptr 9 (0) 0)]), (.var [(.int .i64 (z4.w)), (.int .i64 (z4.g)), (.slice 2 13 (z4.lo) (z4.len) none), (.int .i64 (z4.nw)), (.bool (z4.ov))]), .dead, (.var [(.int .i64 (z5.w)), (.int .i64 (z5.g)), (.slice 2 14 (z5.lo) (z5.len) none), (.int .i64 (z5.nw)), (.bool (z5.ov))]), .dead, (.fam 80 (Cd.pair (Cd.int .i64) (Cd.pair (Cd.int .i64) (Cd.pair (Cd.int .i64) Cd.bool))) (z2.l) (z2.f)), (.fam 80 (Cd.pair (Cd.int .i64) (Cd.pair (Cd.int .i64) (Cd.pair (Cd.int .i64) Cd.bool))) (z3.l) (z3.f)), (.rows (Cd.pair (Cd.int .i64) (Cd.int .i64)) (z4.r) false), (.rows (Cd.pair (Cd.int .i64) (Cd.int .i64)) (z5.r) false)]⟩
noncomputable def S.MetricPlays_x0_1 (c : Cf) (l : OL) (len : Nat) (z0 : Cf) (z1 : Bool) (z2 : Rg) (z3 : Rg) (z4 : Rr) (z5 : Rr) : St := ⟨[(4, (.bool (false)))], [(.rows (Cd.pair (Cd.int .i64) (Cd.pair (Cd.int .i64) (Cd.pair (Cd.int .i64) (Cd.pair (Cd.int .i64) (Cd.pair (Cd.int .i64) (Cd.pair (Cd.int .i64) (Cd.pair (Cd.int .i64) (Cd.pair (Cd.int .i64) (Cd.pair (Cd.int .i64) (Cd.pair (Cd.int .i64) (Cd.pair (Cd.int .i64) (Cd.pair (Cd.int .i64) (Cd.pair (Cd.int .i64) (Cd.pair (Cd.int .i64) (Cd.pair (Cd.int .i64) (Cd.pair (Cd.int .i64) (Cd.pair (Cd.int .i64) (Cd.pair (Cd.int .i64) (Cd.pair (Cd.int .i64) (Cd.pair (Cd.int .i64) (Cd.pair (Cd.int .i64) (Cd.pair (Cd.int .i64) (Cd.int .i64))))))))))))))))))))))) l true), (.var [(.int .i64 (z0.target)), (.int .i64 (z0.util)), (.int .i64 (z0.stable)), (.int .i64 (z0.panic)), (.int .i64 (z0.grain)), (.int .i64 (z0.threshold)), (.int .i64 (z0.up)), (.int .i64 (z0.down)), (.int .i64 (z0.min)), (.int .i64 (z0.max)), (.int .i64 (z0.initial)), (.int .i64 (z0.grace)), (.int .i64 (z0.delay)), (.int .i64 (z0.burst)), (.int .i64 (z0.limit)), (.int .i64 (z0.queue)), (.int .i64 (z0.timeout)), (.int .i64 (z0.ready)), (.int .i64 (z0.subset)), (.int .i64 (z0.sample)), (.iface 56 (.ptr 11 (0) 0)), (.iface 56 (.ptr 13 (0) 0)), (.bool (z1))]), .dead, .dead, .dead, .dead, (.var [(.ptr 15 (0) 0), (.ptr 17 (0) 0)]), .dead, .dead, .dead, .dead, (.var [(.slice 1 12 (z2.lo) (z2.len) none), (.int .i64 (z2.w)), (.int .i64 (z2.g)), (.int .i64 (z2.n)), (.int .i64 (z2.nw)), (.bool (z2.ov))]), (.fam 80 (Cd.pair (Cd.int .i64) (Cd.pair (Cd.int .i64) (Cd.pair (Cd.int .i64) Cd.bool))) (z2.l) (z2.f)), (.var [(.slice 1 14 (z3.lo) (z3.len) none), (.int .i64 (z3.w)), (.int .i64 (z3.g)), (.int .i64 (z3.n)), (.int .i64 (z3.nw)), (.bool (z3.ov))]), (.fam 80 (Cd.pair (Cd.int .i64) (Cd.pair (Cd.int .i64) (Cd.pair (Cd.int .i64) Cd.bool))) (z3.l) (z3.f)), (.var [(.int .i64 (z4.w)), (.int .i64 (z4.g)), (.slice 2 16 (z4.lo) (z4.len) none), (.int .i64 (z4.nw)), (.bool (z4.ov))]), (.rows (Cd.pair (Cd.int .i64) (Cd.int .i64)) (z4.r) false), (.var [(.int .i64 (z5.w)), (.int .i64 (z5.g)), (.slice 2 18 (z5.lo) (z5.len) none), (.int .i64 (z5.nw)), (.bool (z5.ov))]), (.rows (Cd.pair (Cd.int .i64) (Cd.int .i64)) (z5.r) false)]⟩
noncomputable def S.MetricPlays_x0_2 (c : Cf) (l : OL) (len : Nat) (z0 : Cf) (z1 : Bool) (z2 : Rg) (z3 : Rg) (z4 : Rr) (z5 : Rr) : St := ⟨[(4, (.bool (false)))], [(.rows (Cd.pair (Cd.int .i64) (Cd.pair (Cd.int .i64) (Cd.pair (Cd.int .i64) (Cd.pair (Cd.int .i64) (Cd.pair (Cd.int .i64) (Cd.pair (Cd.int .i64) (Cd.pair (Cd.int .i64) (Cd.pair (Cd.int .i64) (Cd.pair (Cd.int .i64) (Cd.pair (Cd.int .i64) (Cd.pair (Cd.int .i64) (Cd.pair (Cd.int .i64) (Cd.pair (Cd.int .i64) (Cd.pair (Cd.int .i64) (Cd.pair (Cd.int .i64) (Cd.pair (Cd.int .i64) (Cd.pair (Cd.int .i64) (Cd.pair (Cd.int .i64) (Cd.pair (Cd.int .i64) (Cd.pair (Cd.int .i64) (Cd.pair (Cd.int .i64) (Cd.pair (Cd.int .i64) (Cd.int .i64))))))))))))))))))))))) l true), (.var [(.int .i64 (z0.target)), (.int .i64 (z0.util)), (.int .i64 (z0.stable)), (.int .i64 (z0.panic)), (.int .i64 (z0.grain)), (.int .i64 (z0.threshold)), (.int .i64 (z0.up)), (.int .i64 (z0.down)), (.int .i64 (z0.min)), (.int .i64 (z0.max)), (.int .i64 (z0.initial)), (.int .i64 (z0.grace)), (.int .i64 (z0.delay)), (.int .i64 (z0.burst)), (.int .i64 (z0.limit)), (.int .i64 (z0.queue)), (.int .i64 (z0.timeout)), (.int .i64 (z0.ready)), (.int .i64 (z0.subset)), (.int .i64 (z0.sample)), (.iface 56 (.ptr 2 (0) 0)), (.iface 56 (.ptr 4 (0) 0)), (.bool (z1))]), (.var [(.slice 1 3 (z2.lo) (z2.len) none), (.int .i64 (z2.w)), (.int .i64 (z2.g)), (.int .i64 (z2.n)), (.int .i64 (z2.nw)), (.bool (z2.ov))]), (.fam 80 (Cd.pair (Cd.int .i64) (Cd.pair (Cd.int .i64) (Cd.pair (Cd.int .i64) Cd.bool))) (z2.l) (z2.f)), (.var [(.slice 1 5 (z3.lo) (z3.len) none), (.int .i64 (z3.w)), (.int .i64 (z3.g)), (.int .i64 (z3.n)), (.int .i64 (z3.nw)), (.bool (z3.ov))]), (.fam 80 (Cd.pair (Cd.int .i64) (Cd.pair (Cd.int .i64) (Cd.pair (Cd.int .i64) Cd.bool))) (z3.l) (z3.f)), (.var [(.ptr 7 (0) 0), (.ptr 9 (0) 0)]), (.var [(.int .i64 (z4.w)), (.int .i64 (z4.g)), (.slice 2 8 (z4.lo) (z4.len) none), (.int .i64 (z4.nw)), (.bool (z4.ov))]), (.rows (Cd.pair (Cd.int .i64) (Cd.int .i64)) (z4.r) false), (.var [(.int .i64 (z5.w)), (.int .i64 (z5.g)), (.slice 2 10 (z5.lo) (z5.len) none), (.int .i64 (z5.nw)), (.bool (z5.ov))]), (.rows (Cd.pair (Cd.int .i64) (Cd.int .i64)) (z5.r) false)]⟩
noncomputable def S.MetricPlays_x0_3 (c : Cf) (l : OL) (len : Nat) (z0 : Int) (z1 : Bool) (z2 : Cf) (z3 : Bool) (z4 : Rg) (z5 : Rg) (z6 : Rr) (z7 : Rr) : St := ⟨[(1, (.slice 23 0 (0) (len) none)), (5, (.ptr 1 (0) 0)), (6, (.ptr 6 (0) 0)), (7, (.int .i64 (z0))), (31, (.bool (z1)))], [(.rows (Cd.pair (Cd.int .i64) (Cd.pair (Cd.int .i64) (Cd.pair (Cd.int .i64) (Cd.pair (Cd.int .i64) (Cd.pair (Cd.int .i64) (Cd.pair (Cd.int .i64) (Cd.pair (Cd.int .i64) (Cd.pair (Cd.int .i64) (Cd.pair (Cd.int .i64) (Cd.pair (Cd.int .i64) (Cd.pair (Cd.int .i64) (Cd.pair (Cd.int .i64) (Cd.pair (Cd.int .i64) (Cd.pair (Cd.int .i64) (Cd.pair (Cd.int .i64) (Cd.pair (Cd.int .i64) (Cd.pair (Cd.int .i64) (Cd.pair (Cd.int .i64) (Cd.pair (Cd.int .i64) (Cd.pair (Cd.int .i64) (Cd.pair (Cd.int .i64) (Cd.pair (Cd.int .i64) (Cd.int .i64))))))))))))))))))))))) l true), (.var [(.int .i64 (z2.target)), (.int .i64 (z2.util)), (.int .i64 (z2.stable)), (.int .i64 (z2.panic)), (.int .i64 (z2.grain)), (.int .i64 (z2.threshold)), (.int .i64 (z2.up)), (.int .i64 (z2.down)), (.int .i64 (z2.min)), (.int .i64 (z2.max)), (.int .i64 (z2.initial)), (.int .i64 (z2.grace)), (.int .i64 (z2.delay)), (.int .i64 (z2.burst)), (.int .i64 (z2.limit)), (.int .i64 (z2.queue)), (.int .i64 (z2.timeout)), (.int .i64 (z2.ready)), (.int .i64 (z2.subset)), (.int .i64 (z2.sample)), (.iface 56 (.ptr 2 (0) 0)), (.iface 56 (.ptr 4 (0) 0)), (.bool (z3))]), (.var [(.slice 1 3 (z4.lo) (z4.len) none), (.int .i64 (z4.w)), (.int .i64 (z4.g)), (.int .i64 (z4.n)), (.int .i64 (z4.nw)), (.bool (z4.ov))]), (.fam 80 (Cd.pair (Cd.int .i64) (Cd.pair (Cd.int .i64) (Cd.pair (Cd.int .i64) Cd.bool))) (z4.l) (z4.f)), (.var [(.slice 1 5 (z5.lo) (z5.len) none), (.int .i64 (z5.w)), (.int .i64 (z5.g)), (.int .i64 (z5.n)), (.int .i64 (z5.nw)), (.bool (z5.ov))]), (.fam 80 (Cd.pair (Cd.int .i64) (Cd.pair (Cd.int .i64) (Cd.pair (Cd.int .i64) Cd.bool))) (z5.l) (z5.f)), (.var [(.ptr 7 (0) 0), (.ptr 9 (0) 0)]), (.var [(.int .i64 (z6.w)), (.int .i64 (z6.g)), (.slice 2 8 (z6.lo) (z6.len) none), (.int .i64 (z6.nw)), (.bool (z6.ov))]), (.rows (Cd.pair (Cd.int .i64) (Cd.int .i64)) (z6.r) false), (.var [(.int .i64 (z7.w)), (.int .i64 (z7.g)), (.slice 2 10 (z7.lo) (z7.len) none), (.int .i64 (z7.nw)), (.bool (z7.ov))]), (.rows (Cd.pair (Cd.int .i64) (Cd.int .i64)) (z7.r) false)]⟩
noncomputable def S.MetricPlays_g0 {R : Type} (c : Cf) (l : OL) (len : Nat) (K : Ex → St → Option R) : ((Cf × Bool × Rg × Rg × Rr × Rr) ⊕ (Cf × Bool × Rg × Rg × Rr × Rr) ⊕ (Cf × Bool × Rg × Rg × Rr × Rr) ⊕ (Int × Bool × Cf × Bool × Rg × Rg × Rr × Rr)) → Option R := (Sum.elim (fun z : Cf × Bool × Rg × Rg × Rr × Rr => K (Ex.ret) (S.MetricPlays_x0_0 c l len (z.1) (z.2.1) (z.2.2.1) (z.2.2.2.1) (z.2.2.2.2.1) (z.2.2.2.2.2))) (Sum.elim (fun z : Cf × Bool × Rg × Rg × Rr × Rr => K (Ex.ret) (S.MetricPlays_x0_1 c l len (z.1) (z.2.1) (z.2.2.1) (z.2.2.2.1) (z.2.2.2.2.1) (z.2.2.2.2.2))) (Sum.elim (fun z : Cf × Bool × Rg × Rg × Rr × Rr => K (Ex.ret) (S.MetricPlays_x0_2 c l len (z.1) (z.2.1) (z.2.2.1) (z.2.2.2.1) (z.2.2.2.2.1) (z.2.2.2.2.2))) (fun z : Int × Bool × Cf × Bool × Rg × Rg × Rr × Rr => K (Ex.exit 0) (S.MetricPlays_x0_3 c l len (z.1) (z.2.1) (z.2.2.1) (z.2.2.2.1) (z.2.2.2.2.1) (z.2.2.2.2.2.1) (z.2.2.2.2.2.2.1) (z.2.2.2.2.2.2.2))))))
noncomputable def S.MetricPlays_gk {R : Type} (c : Cf) (l : OL) (len : Nat) (k : AVal → List Blk → Option R) : (Bool) → Option R := (fun v : Bool => k (.bool v) [(.rows (Cd.pair (Cd.int .i64) (Cd.pair (Cd.int .i64) (Cd.pair (Cd.int .i64) (Cd.pair (Cd.int .i64) (Cd.pair (Cd.int .i64) (Cd.pair (Cd.int .i64) (Cd.pair (Cd.int .i64) (Cd.pair (Cd.int .i64) (Cd.pair (Cd.int .i64) (Cd.pair (Cd.int .i64) (Cd.pair (Cd.int .i64) (Cd.pair (Cd.int .i64) (Cd.pair (Cd.int .i64) (Cd.pair (Cd.int .i64) (Cd.pair (Cd.int .i64) (Cd.pair (Cd.int .i64) (Cd.pair (Cd.int .i64) (Cd.pair (Cd.int .i64) (Cd.pair (Cd.int .i64) (Cd.pair (Cd.int .i64) (Cd.pair (Cd.int .i64) (Cd.pair (Cd.int .i64) (Cd.int .i64))))))))))))))))))))))) l true)])
theorem S.MetricPlays_l0_k {R : Type} (fu : Nat) (c : Cf) (l : OL) (len : Nat) (n : Nat) (K : Ex → St → Option R) (y0 : Int) (y1 : Cf) (y2 : Bool) (y3 : Rg) (y4 : Rg) (y5 : Rr) (y6 : Rr) : loopRun (C_MetricPlays fu c l len) G28s S.MetricPlays_b0 (n + 1) (S.MetricPlays_s0 c l len (y0) (y1) (y2) (y3) (y4) (y5) (y6)) K =
  (bif decide (y0 < ((len : Nat) : Int)) then
   bif inB y0 len then
   (optK (l[Int.toNat y0 + 0]?) fun o4 =>
   bif decide (bitsA Go.BinOp.and .i64 o4.1 7 < 6) then
   bif inB y0 len then
   (optK (l[Int.toNat y0 + 0]?) fun o7 =>
   bif inB y0 len then
   (optK (l[Int.toNat y0 + 0]?) fun o9 =>
   (optK (S.q_mput y1 y2 y3 y4 o7.2.1 o9.2.2.1) fun o10 =>
   bif inB y0 len then
   (optK (l[Int.toNat y0 + 0]?) fun o12 =>
   bif inB y0 len then
   (optK (l[Int.toNat y0 + 0]?) fun o14 =>
   (optK (S.q_rmput y5.w y5.g y5.lo y5.len y5.nw y5.ov y5.r y6.w y6.g y6.lo y6.len y6.nw y6.ov y6.r o12.2.1 o14.2.2.1) fun o15 =>
   bif !decide (o10.1 = o15.1) then
   K (Ex.ret) (S.MetricPlays_x0_0 c l len (o10.2.1) (o10.2.2.1) (o10.2.2.2.1) (o10.2.2.2.2) (o15.2.1) (o15.2.2))
 else
   bif inB y0 len then
   (optK (l[Int.toNat y0 + 0]?) fun o18 =>
   (optK (S.q_mmeans o10.2.1 o10.2.2.1 o10.2.2.2.1 o10.2.2.2.2 o18.2.1) fun o19 =>
   bif inB y0 len then
   (optK (l[Int.toNat y0 + 0]?) fun o21 =>
   (optK (S.q_rmean o15.2.1.r o15.2.1.lo o15.2.1.len o15.2.1.w o15.2.1.g o15.2.1.nw o15.2.1.ov o21.2.1) fun o22 =>
   bif !decide (o19.1 = o22.1) then
   K (Ex.ret) (S.MetricPlays_x0_0 c l len (o19.2.2.1) (o19.2.2.2.1) (o19.2.2.2.2.1) (o19.2.2.2.2.2) ((⟨o22.2.1, o22.2.2.1, o22.2.2.2.1, o22.2.2.2.2.1, o22.2.2.2.2.2.1, o22.2.2.2.2.2.2.1, o22.2.2.2.2.2.2.2⟩ : Rr)) (o15.2.2))
 else
   bif inB y0 len then
   (optK (l[Int.toNat y0 + 0]?) fun o25 =>
   (optK (S.q_rmean o15.2.2.r o15.2.2.lo o15.2.2.len o15.2.2.w o15.2.2.g o15.2.2.nw o15.2.2.ov o25.2.1) fun o26 =>
   bif !decide (o19.2.1 = o26.1) then
   K (Ex.ret) (S.MetricPlays_x0_0 c l len (o19.2.2.1) (o19.2.2.2.1) (o19.2.2.2.2.1) (o19.2.2.2.2.2) ((⟨o22.2.1, o22.2.2.1, o22.2.2.2.1, o22.2.2.2.2.1, o22.2.2.2.2.2.1, o22.2.2.2.2.2.2.1, o22.2.2.2.2.2.2.2⟩ : Rr)) ((⟨o26.2.1, o26.2.2.1, o26.2.2.2.1, o26.2.2.2.2.1, o26.2.2.2.2.2.1, o26.2.2.2.2.2.2.1, o26.2.2.2.2.2.2.2⟩ : Rr)))
 else
   bif !S.mover o19.2.2.1 o19.2.2.2.1 o19.2.2.2.2.1 o19.2.2.2.2.2 == S.rmover o22.2.1 o22.2.2.1 o22.2.2.2.1 o22.2.2.2.2.1 o22.2.2.2.2.2.1 o22.2.2.2.2.2.2.1 o22.2.2.2.2.2.2.2 o26.2.1 o26.2.2.1 o26.2.2.2.1 o26.2.2.2.2.1 o26.2.2.2.2.2.1 o26.2.2.2.2.2.2.1 o26.2.2.2.2.2.2.2 then
   K (Ex.ret) (S.MetricPlays_x0_0 c l len (o19.2.2.1) (o19.2.2.2.1) (o19.2.2.2.2.1) (o19.2.2.2.2.2) ((⟨o22.2.1, o22.2.2.1, o22.2.2.2.1, o22.2.2.2.2.1, o22.2.2.2.2.2.1, o22.2.2.2.2.2.2.1, o22.2.2.2.2.2.2.2⟩ : Rr)) ((⟨o26.2.1, o26.2.2.1, o26.2.2.2.1, o26.2.2.2.2.1, o26.2.2.2.2.2.1, o26.2.2.2.2.2.2.1, o26.2.2.2.2.2.2.2⟩ : Rr)))
 else
   loopRun (C_MetricPlays fu c l len) G28s S.MetricPlays_b0 n (S.MetricPlays_s0 c l len (Go.IntKind.wrap .i64 (y0 + 1)) (o19.2.2.1) (o19.2.2.2.1) (o19.2.2.2.2.1) (o19.2.2.2.2.2) ((⟨o22.2.1, o22.2.2.1, o22.2.2.2.1, o22.2.2.2.2.1, o22.2.2.2.2.2.1, o22.2.2.2.2.2.2.1, o22.2.2.2.2.2.2.2⟩ : Rr)) ((⟨o26.2.1, o26.2.2.1, o26.2.2.2.1, o26.2.2.2.2.1, o26.2.2.2.2.2.1, o26.2.2.2.2.2.2.1, o26.2.2.2.2.2.2.2⟩ : Rr))) K))
 else
   none))
 else
   none))
 else
   none))
 else
   none)
 else
   none))
 else
   none)
 else
   none
 else
   bif decide (bitsA Go.BinOp.and .i64 o4.1 7 = 7) then
   bif inB y0 len then
   (optK (l[Int.toNat y0 + 0]?) fun o8 =>
   (optK (S.q_mchange y1 y2 y3 y4 (Cf.mk o8.2.2.2.1 o8.2.2.2.2.1 o8.2.2.2.2.2.1 o8.2.2.2.2.2.2.1 o8.2.2.2.2.2.2.2.1 o8.2.2.2.2.2.2.2.2.1 o8.2.2.2.2.2.2.2.2.2.1 o8.2.2.2.2.2.2.2.2.2.2.1 o8.2.2.2.2.2.2.2.2.2.2.2.1 o8.2.2.2.2.2.2.2.2.2.2.2.2.1 o8.2.2.2.2.2.2.2.2.2.2.2.2.2.1 o8.2.2.2.2.2.2.2.2.2.2.2.2.2.2.1 o8.2.2.2.2.2.2.2.2.2.2.2.2.2.2.2.1 o8.2.2.2.2.2.2.2.2.2.2.2.2.2.2.2.2.1 o8.2.2.2.2.2.2.2.2.2.2.2.2.2.2.2.2.2.1 o8.2.2.2.2.2.2.2.2.2.2.2.2.2.2.2.2.2.2.1 o8.2.2.2.2.2.2.2.2.2.2.2.2.2.2.2.2.2.2.2.1 o8.2.2.2.2.2.2.2.2.2.2.2.2.2.2.2.2.2.2.2.2.1 o8.2.2.2.2.2.2.2.2.2.2.2.2.2.2.2.2.2.2.2.2.2.1 o8.2.2.2.2.2.2.2.2.2.2.2.2.2.2.2.2.2.2.2.2.2.2)) fun o9 =>
   bif inB y0 len then
   (optK (l[Int.toNat y0 + 0]?) fun o11 =>
   (optK (S.q_rmchange_p y5.w y5.g y5.lo y5.len y5.nw y5.ov y5.r y6.w y6.g y6.lo y6.len y6.nw y6.ov y6.r (Cf.mk o11.2.2.2.1 o11.2.2.2.2.1 o11.2.2.2.2.2.1 o11.2.2.2.2.2.2.1 o11.2.2.2.2.2.2.2.1 o11.2.2.2.2.2.2.2.2.1 o11.2.2.2.2.2.2.2.2.2.1 o11.2.2.2.2.2.2.2.2.2.2.1 o11.2.2.2.2.2.2.2.2.2.2.2.1 o11.2.2.2.2.2.2.2.2.2.2.2.2.1 o11.2.2.2.2.2.2.2.2.2.2.2.2.2.1 o11.2.2.2.2.2.2.2.2.2.2.2.2.2.2.1 o11.2.2.2.2.2.2.2.2.2.2.2.2.2.2.2.1 o11.2.2.2.2.2.2.2.2.2.2.2.2.2.2.2.2.1 o11.2.2.2.2.2.2.2.2.2.2.2.2.2.2.2.2.2.1 o11.2.2.2.2.2.2.2.2.2.2.2.2.2.2.2.2.2.2.1 o11.2.2.2.2.2.2.2.2.2.2.2.2.2.2.2.2.2.2.2.1 o11.2.2.2.2.2.2.2.2.2.2.2.2.2.2.2.2.2.2.2.2.1 o11.2.2.2.2.2.2.2.2.2.2.2.2.2.2.2.2.2.2.2.2.2.1 o11.2.2.2.2.2.2.2.2.2.2.2.2.2.2.2.2.2.2.2.2.2.2)) fun o12 =>
   bif !decide (o9.1 = o12.1) then
   K (Ex.ret) (S.MetricPlays_x0_1 c l len (o9.2.1) (o9.2.2.1) (o9.2.2.2.1) (o9.2.2.2.2) (o12.2.1) (o12.2.2))
 else
   bif inB y0 len then
   (optK (l[Int.toNat y0 + 0]?) fun o15 =>
   (optK (S.q_mmeans o9.2.1 o9.2.2.1 o9.2.2.2.1 o9.2.2.2.2 o15.2.1) fun o16 =>
   bif inB y0 len then
   (optK (l[Int.toNat y0 + 0]?) fun o18 =>
   (optK (S.q_rmean o12.2.1.r o12.2.1.lo o12.2.1.len o12.2.1.w o12.2.1.g o12.2.1.nw o12.2.1.ov o18.2.1) fun o19 =>
   bif !decide (o16.1 = o19.1) then
   K (Ex.ret) (S.MetricPlays_x0_1 c l len (o16.2.2.1) (o16.2.2.2.1) (o16.2.2.2.2.1) (o16.2.2.2.2.2) ((⟨o19.2.1, o19.2.2.1, o19.2.2.2.1, o19.2.2.2.2.1, o19.2.2.2.2.2.1, o19.2.2.2.2.2.2.1, o19.2.2.2.2.2.2.2⟩ : Rr)) (o12.2.2))
 else
   bif inB y0 len then
   (optK (l[Int.toNat y0 + 0]?) fun o22 =>
   (optK (S.q_rmean o12.2.2.r o12.2.2.lo o12.2.2.len o12.2.2.w o12.2.2.g o12.2.2.nw o12.2.2.ov o22.2.1) fun o23 =>
   bif !decide (o16.2.1 = o23.1) then
   K (Ex.ret) (S.MetricPlays_x0_1 c l len (o16.2.2.1) (o16.2.2.2.1) (o16.2.2.2.2.1) (o16.2.2.2.2.2) ((⟨o19.2.1, o19.2.2.1, o19.2.2.2.1, o19.2.2.2.2.1, o19.2.2.2.2.2.1, o19.2.2.2.2.2.2.1, o19.2.2.2.2.2.2.2⟩ : Rr)) ((⟨o23.2.1, o23.2.2.1, o23.2.2.2.1, o23.2.2.2.2.1, o23.2.2.2.2.2.1, o23.2.2.2.2.2.2.1, o23.2.2.2.2.2.2.2⟩ : Rr)))
 else
   bif !S.mover o16.2.2.1 o16.2.2.2.1 o16.2.2.2.2.1 o16.2.2.2.2.2 == S.rmover o19.2.1 o19.2.2.1 o19.2.2.2.1 o19.2.2.2.2.1 o19.2.2.2.2.2.1 o19.2.2.2.2.2.2.1 o19.2.2.2.2.2.2.2 o23.2.1 o23.2.2.1 o23.2.2.2.1 o23.2.2.2.2.1 o23.2.2.2.2.2.1 o23.2.2.2.2.2.2.1 o23.2.2.2.2.2.2.2 then
   K (Ex.ret) (S.MetricPlays_x0_1 c l len (o16.2.2.1) (o16.2.2.2.1) (o16.2.2.2.2.1) (o16.2.2.2.2.2) ((⟨o19.2.1, o19.2.2.1, o19.2.2.2.1, o19.2.2.2.2.1, o19.2.2.2.2.2.1, o19.2.2.2.2.2.2.1, o19.2.2.2.2.2.2.2⟩ : Rr)) ((⟨o23.2.1, o23.2.2.1, o23.2.2.2.1, o23.2.2.2.2.1, o23.2.2.2.2.2.1, o23.2.2.2.2.2.2.1, o23.2.2.2.2.2.2.2⟩ : Rr)))
 else
   loopRun (C_MetricPlays fu c l len) G28s S.MetricPlays_b0 n (S.MetricPlays_s0 c l len (Go.IntKind.wrap .i64 (y0 + 1)) (o16.2.2.1) (o16.2.2.2.1) (o16.2.2.2.2.1) (o16.2.2.2.2.2) ((⟨o19.2.1, o19.2.2.1, o19.2.2.2.1, o19.2.2.2.2.1, o19.2.2.2.2.2.1, o19.2.2.2.2.2.2.1, o19.2.2.2.2.2.2.2⟩ : Rr)) ((⟨o23.2.1, o23.2.2.1, o23.2.2.2.1, o23.2.2.2.2.1, o23.2.2.2.2.2.1, o23.2.2.2.2.2.2.1, o23.2.2.2.2.2.2.2⟩ : Rr))) K))
 else
   none))
 else
   none))
 else
   none))
 else
   none))
 else
   none
 else
   bif inB y0 len then
   (optK (l[Int.toNat y0 + 0]?) fun o8 =>
   (optK (S.q_mmeans y1 y2 y3 y4 o8.2.1) fun o9 =>
   bif inB y0 len then
   (optK (l[Int.toNat y0 + 0]?) fun o11 =>
   (optK (S.q_rmean y5.r y5.lo y5.len y5.w y5.g y5.nw y5.ov o11.2.1) fun o12 =>
   bif !decide (o9.1 = o12.1) then
   K (Ex.ret) (S.MetricPlays_x0_2 c l len (o9.2.2.1) (o9.2.2.2.1) (o9.2.2.2.2.1) (o9.2.2.2.2.2) ((⟨o12.2.1, o12.2.2.1, o12.2.2.2.1, o12.2.2.2.2.1, o12.2.2.2.2.2.1, o12.2.2.2.2.2.2.1, o12.2.2.2.2.2.2.2⟩ : Rr)) (y6))
 else
   bif inB y0 len then
   (optK (l[Int.toNat y0 + 0]?) fun o15 =>
   (optK (S.q_rmean y6.r y6.lo y6.len y6.w y6.g y6.nw y6.ov o15.2.1) fun o16 =>
   bif !decide (o9.2.1 = o16.1) then
   K (Ex.ret) (S.MetricPlays_x0_2 c l len (o9.2.2.1) (o9.2.2.2.1) (o9.2.2.2.2.1) (o9.2.2.2.2.2) ((⟨o12.2.1, o12.2.2.1, o12.2.2.2.1, o12.2.2.2.2.1, o12.2.2.2.2.2.1, o12.2.2.2.2.2.2.1, o12.2.2.2.2.2.2.2⟩ : Rr)) ((⟨o16.2.1, o16.2.2.1, o16.2.2.2.1, o16.2.2.2.2.1, o16.2.2.2.2.2.1, o16.2.2.2.2.2.2.1, o16.2.2.2.2.2.2.2⟩ : Rr)))
 else
   bif !S.mover o9.2.2.1 o9.2.2.2.1 o9.2.2.2.2.1 o9.2.2.2.2.2 == S.rmover o12.2.1 o12.2.2.1 o12.2.2.2.1 o12.2.2.2.2.1 o12.2.2.2.2.2.1 o12.2.2.2.2.2.2.1 o12.2.2.2.2.2.2.2 o16.2.1 o16.2.2.1 o16.2.2.2.1 o16.2.2.2.2.1 o16.2.2.2.2.2.1 o16.2.2.2.2.2.2.1 o16.2.2.2.2.2.2.2 then
   K (Ex.ret) (S.MetricPlays_x0_2 c l len (o9.2.2.1) (o9.2.2.2.1) (o9.2.2.2.2.1) (o9.2.2.2.2.2) ((⟨o12.2.1, o12.2.2.1, o12.2.2.2.1, o12.2.2.2.2.1, o12.2.2.2.2.2.1, o12.2.2.2.2.2.2.1, o12.2.2.2.2.2.2.2⟩ : Rr)) ((⟨o16.2.1, o16.2.2.1, o16.2.2.2.1, o16.2.2.2.2.1, o16.2.2.2.2.2.1, o16.2.2.2.2.2.2.1, o16.2.2.2.2.2.2.2⟩ : Rr)))
 else
   loopRun (C_MetricPlays fu c l len) G28s S.MetricPlays_b0 n (S.MetricPlays_s0 c l len (Go.IntKind.wrap .i64 (y0 + 1)) (o9.2.2.1) (o9.2.2.2.1) (o9.2.2.2.2.1) (o9.2.2.2.2.2) ((⟨o12.2.1, o12.2.2.1, o12.2.2.2.1, o12.2.2.2.2.1, o12.2.2.2.2.2.1, o12.2.2.2.2.2.2.1, o12.2.2.2.2.2.2.2⟩ : Rr)) ((⟨o16.2.1, o16.2.2.1, o16.2.2.2.1, o16.2.2.2.2.1, o16.2.2.2.2.2.1, o16.2.2.2.2.2.2.1, o16.2.2.2.2.2.2.2⟩ : Rr))) K))
 else
   none))
 else
   none))
 else
   none)
 else
   none
 else
   K (Ex.exit 0) (S.MetricPlays_x0_3 c l len (y0) (decide (y0 < ((len : Nat) : Int))) (y1) (y2) (y3) (y4) (y5) (y6))) := by kernel_rfl
noncomputable def S.MetricPlays_l0 (fu : Nat) (c : Cf) (l : OL) (len : Nat) : Nat → (Int) → (Cf) → (Bool) → (Rg) → (Rg) → (Rr) → (Rr) → Option ((Cf × Bool × Rg × Rg × Rr × Rr) ⊕ (Cf × Bool × Rg × Rg × Rr × Rr) ⊕ (Cf × Bool × Rg × Rg × Rr × Rr) ⊕ (Int × Bool × Cf × Bool × Rg × Rg × Rr × Rr))
  | 0, _, _, _, _, _, _, _ => none
  | n + 1, y0, y1, y2, y3, y4, y5, y6 =>
    bif decide (y0 < ((len : Nat) : Int)) then
   bif inB y0 len then
   (optK (l[Int.toNat y0 + 0]?) fun o4 =>
   bif decide (bitsA Go.BinOp.and .i64 o4.1 7 < 6) then
   bif inB y0 len then
   (optK (l[Int.toNat y0 + 0]?) fun o7 =>
   bif inB y0 len then
   (optK (l[Int.toNat y0 + 0]?) fun o9 =>
   (optK (S.q_mput y1 y2 y3 y4 o7.2.1 o9.2.2.1) fun o10 =>
   bif inB y0 len then
   (optK (l[Int.toNat y0 + 0]?) fun o12 =>
   bif inB y0 len then
   (optK (l[Int.toNat y0 + 0]?) fun o14 =>
   (optK (S.q_rmput y5.w y5.g y5.lo y5.len y5.nw y5.ov y5.r y6.w y6.g y6.lo y6.len y6.nw y6.ov y6.r o12.2.1 o14.2.2.1) fun o15 =>
   bif !decide (o10.1 = o15.1) then
   some (.inl (o10.2.1, o10.2.2.1, o10.2.2.2.1, o10.2.2.2.2, o15.2.1, o15.2.2))
 else
   bif inB y0 len then
   (optK (l[Int.toNat y0 + 0]?) fun o18 =>
   (optK (S.q_mmeans o10.2.1 o10.2.2.1 o10.2.2.2.1 o10.2.2.2.2 o18.2.1) fun o19 =>
   bif inB y0 len then
   (optK (l[Int.toNat y0 + 0]?) fun o21 =>
   (optK (S.q_rmean o15.2.1.r o15.2.1.lo o15.2.1.len o15.2.1.w o15.2.1.g o15.2.1.nw o15.2.1.ov o21.2.1) fun o22 =>
   bif !decide (o19.1 = o22.1) then
   some (.inl (o19.2.2.1, o19.2.2.2.1, o19.2.2.2.2.1, o19.2.2.2.2.2, (⟨o22.2.1, o22.2.2.1, o22.2.2.2.1, o22.2.2.2.2.1, o22.2.2.2.2.2.1, o22.2.2.2.2.2.2.1, o22.2.2.2.2.2.2.2⟩ : Rr), o15.2.2))
 else
   bif inB y0 len then
   (optK (l[Int.toNat y0 + 0]?) fun o25 =>
   (optK (S.q_rmean o15.2.2.r o15.2.2.lo o15.2.2.len o15.2.2.w o15.2.2.g o15.2.2.nw o15.2.2.ov o25.2.1) fun o26 =>
   bif !decide (o19.2.1 = o26.1) then
   some (.inl (o19.2.2.1, o19.2.2.2.1, o19.2.2.2.2.1, o19.2.2.2.2.2, (⟨o22.2.1, o22.2.2.1, o22.2.2.2.1, o22.2.2.2.2.1, o22.2.2.2.2.2.1, o22.2.2.2.2.2.2.1, o22.2.2.2.2.2.2.2⟩ : Rr), (⟨o26.2.1, o26.2.2.1, o26.2.2.2.1, o26.2.2.2.2.1, o26.2.2.2.2.2.1, o26.2.2.2.2.2.2.1, o26.2.2.2.2.2.2.2⟩ : Rr)))
 else
   bif !S.mover o19.2.2.1 o19.2.2.2.1 o19.2.2.2.2.1 o19.2.2.2.2.2 == S.rmover o22.2.1 o22.2.2.1 o22.2.2.2.1 o22.2.2.2.2.1 o22.2.2.2.2.2.1 o22.2.2.2.2.2.2.1 o22.2.2.2.2.2.2.2 o26.2.1 o26.2.2.1 o26.2.2.2.1 o26.2.2.2.2.1 o26.2.2.2.2.2.1 o26.2.2.2.2.2.2.1 o26.2.2.2.2.2.2.2 then
   some (.inl (o19.2.2.1, o19.2.2.2.1, o19.2.2.2.2.1, o19.2.2.2.2.2, (⟨o22.2.1, o22.2.2.1, o22.2.2.2.1, o22.2.2.2.2.1, o22.2.2.2.2.2.1, o22.2.2.2.2.2.2.1, o22.2.2.2.2.2.2.2⟩ : Rr), (⟨o26.2.1, o26.2.2.1, o26.2.2.2.1, o26.2.2.2.2.1, o26.2.2.2.2.2.1, o26.2.2.2.2.2.2.1, o26.2.2.2.2.2.2.2⟩ : Rr)))
 else
   (S.MetricPlays_l0 fu c l len n) (Go.IntKind.wrap .i64 (y0 + 1)) (o19.2.2.1) (o19.2.2.2.1) (o19.2.2.2.2.1) (o19.2.2.2.2.2) ((⟨o22.2.1, o22.2.2.1, o22.2.2.2.1, o22.2.2.2.2.1, o22.2.2.2.2.2.1, o22.2.2.2.2.2.2.1, o22.2.2.2.2.2.2.2⟩ : Rr)) ((⟨o26.2.1, o26.2.2.1, o26.2.2.2.1, o26.2.2.2.2.1, o26.2.2.2.2.2.1, o26.2.2.2.2.2.2.1, o26.2.2.2.2.2.2.2⟩ : Rr))))
 else
   none))
 else
   none))
 else
   none))
 else
   none)
 else
   none))
 else
   none)
 else
   none
 else
   bif decide (bitsA Go.BinOp.and .i64 o4.1 7 = 7) then
   bif inB y0 len then
   (optK (l[Int.toNat y0 + 0]?) fun o8 =>
   (optK (S.q_mchange y1 y2 y3 y4 (Cf.mk o8.2.2.2.1 o8.2.2.2.2.1 o8.2.2.2.2.2.1 o8.2.2.2.2.2.2.1 o8.2.2.2.2.2.2.2.1 o8.2.2.2.2.2.2.2.2.1 o8.2.2.2.2.2.2.2.2.2.1 o8.2.2.2.2.2.2.2.2.2.2.1 o8.2.2.2.2.2.2.2.2.2.2.2.1 o8.2.2.2.2.2.2.2.2.2.2.2.2.1 o8.2.2.2.2.2.2.2.2.2.2.2.2.2.1 o8.2.2.2.2.2.2.2.2.2.2.2.2.2.2.1 o8.2.2.2.2.2.2.2.2.2.2.2.2.2.2.2.1 o8.2.2.2.2.2.2.2.2.2.2.2.2.2.2.2.2.1 o8.2.2.2.2.2.2.2.2.2.2.2.2.2.2.2.2.2.1 o8.2.2.2.2.2.2.2.2.2.2.2.2.2.2.2.2.2.2.1 o8.2.2.2.2.2.2.2.2.2.2.2.2.2.2.2.2.2.2.2.1 o8.2.2.2.2.2.2.2.2.2.2.2.2.2.2.2.2.2.2.2.2.1 o8.2.2.2.2.2.2.2.2.2.2.2.2.2.2.2.2.2.2.2.2.2.1 o8.2.2.2.2.2.2.2.2.2.2.2.2.2.2.2.2.2.2.2.2.2.2)) fun o9 =>
   bif inB y0 len then
   (optK (l[Int.toNat y0 + 0]?) fun o11 =>
   (optK (S.q_rmchange_p y5.w y5.g y5.lo y5.len y5.nw y5.ov y5.r y6.w y6.g y6.lo y6.len y6.nw y6.ov y6.r (Cf.mk o11.2.2.2.1 o11.2.2.2.2.1 o11.2.2.2.2.2.1 o11.2.2.2.2.2.2.1 o11.2.2.2.2.2.2.2.1 o11.2.2.2.2.2.2.2.2.1 o11.2.2.2.2.2.2.2.2.2.1 o11.2.2.2.2.2.2.2.2.2.2.1 o11.2.2.2.2.2.2.2.2.2.2.2.1 o11.2.2.2.2.2.2.2.2.2.2.2.2.1 o11.2.2.2.2.2.2.2.2.2.2.2.2.2.1 o11.2.2.2.2.2.2.2.2.2.2.2.2.2.2.1 o11.2.2.2.2.2.2.2.2.2.2.2.2.2.2.2.1 o11.2.2.2.2.2.2.2.2.2.2.2.2.2.2.2.2.1 o11.2.2.2.2.2.2.2.2.2.2.2.2.2.2.2.2.2.1 o11.2.2.2.2.2.2.2.2.2.2.2.2.2.2.2.2.2.2.1 o11.2.2.2.2.2.2.2.2.2.2.2.2.2.2.2.2.2.2.2.1 o11.2.2.2.2.2.2.2.2.2.2.2.2.2.2.2.2.2.2.2.2.1 o11.2.2.2.2.2.2.2.2.2.2.2.2.2.2.2.2.2.2.2.2.2.1 o11.2.2.2.2.2.2.2.2.2.2.2.2.2.2.2.2.2.2.2.2.2.2)) fun o12 =>
   bif !decide (o9.1 = o12.1) then
   some (.inr (.inl (o9.2.1, o9.2.2.1, o9.2.2.2.1, o9.2.2.2.2, o12.2.1, o12.2.2)))
 else
   bif inB y0 len then
   (optK (l[Int.toNat y0 + 0]?) fun o15 =>
   (optK (S.q_mmeans o9.2.1 o9.2.2.1 o9.2.2.2.1 o9.2.2.2.2 o15.2.1) fun o16 =>
   bif inB y0 len then
   (optK (l[Int.toNat y0 + 0]?) fun o18 =>
   (optK (S.q_rmean o12.2.1.r o12.2.1.lo o12.2.1.len o12.2.1.w o12.2.1.g o12.2.1.nw o12.2.1.ov o18.2.1) fun o19 =>
   bif !decide (o16.1 = o19.1) then
   some (.inr (.inl (o16.2.2.1, o16.2.2.2.1, o16.2.2.2.2.1, o16.2.2.2.2.2, (⟨o19.2.1, o19.2.2.1, o19.2.2.2.1, o19.2.2.2.2.1, o19.2.2.2.2.2.1, o19.2.2.2.2.2.2.1, o19.2.2.2.2.2.2.2⟩ : Rr), o12.2.2)))
 else
   bif inB y0 len then
   (optK (l[Int.toNat y0 + 0]?) fun o22 =>
   (optK (S.q_rmean o12.2.2.r o12.2.2.lo o12.2.2.len o12.2.2.w o12.2.2.g o12.2.2.nw o12.2.2.ov o22.2.1) fun o23 =>
   bif !decide (o16.2.1 = o23.1) then
   some (.inr (.inl (o16.2.2.1, o16.2.2.2.1, o16.2.2.2.2.1, o16.2.2.2.2.2, (⟨o19.2.1, o19.2.2.1, o19.2.2.2.1, o19.2.2.2.2.1, o19.2.2.2.2.2.1, o19.2.2.2.2.2.2.1, o19.2.2.2.2.2.2.2⟩ : Rr), (⟨o23.2.1, o23.2.2.1, o23.2.2.2.1, o23.2.2.2.2.1, o23.2.2.2.2.2.1, o23.2.2.2.2.2.2.1, o23.2.2.2.2.2.2.2⟩ : Rr))))
 else
   bif !S.mover o16.2.2.1 o16.2.2.2.1 o16.2.2.2.2.1 o16.2.2.2.2.2 == S.rmover o19.2.1 o19.2.2.1 o19.2.2.2.1 o19.2.2.2.2.1 o19.2.2.2.2.2.1 o19.2.2.2.2.2.2.1 o19.2.2.2.2.2.2.2 o23.2.1 o23.2.2.1 o23.2.2.2.1 o23.2.2.2.2.1 o23.2.2.2.2.2.1 o23.2.2.2.2.2.2.1 o23.2.2.2.2.2.2.2 then
   some (.inr (.inl (o16.2.2.1, o16.2.2.2.1, o16.2.2.2.2.1, o16.2.2.2.2.2, (⟨o19.2.1, o19.2.2.1, o19.2.2.2.1, o19.2.2.2.2.1, o19.2.2.2.2.2.1, o19.2.2.2.2.2.2.1, o19.2.2.2.2.2.2.2⟩ : Rr), (⟨o23.2.1, o23.2.2.1, o23.2.2.2.1, o23.2.2.2.2.1, o23.2.2.2.2.2.1, o23.2.2.2.2.2.2.1, o23.2.2.2.2.2.2.2⟩ : Rr))))
 else
   (S.MetricPlays_l0 fu c l len n) (Go.IntKind.wrap .i64 (y0 + 1)) (o16.2.2.1) (o16.2.2.2.1) (o16.2.2.2.2.1) (o16.2.2.2.2.2) ((⟨o19.2.1, o19.2.2.1, o19.2.2.2.1, o19.2.2.2.2.1, o19.2.2.2.2.2.1, o19.2.2.2.2.2.2.1, o19.2.2.2.2.2.2.2⟩ : Rr)) ((⟨o23.2.1, o23.2.2.1, o23.2.2.2.1, o23.2.2.2.2.1, o23.2.2.2.2.2.1, o23.2.2.2.2.2.2.1, o23.2.2.2.2.2.2.2⟩ : Rr))))
 else
   none))
 else
   none))
 else
   none))
 else
   none))
 else
   none
 else
   bif inB y0 len then
   (optK (l[Int.toNat y0 + 0]?) fun o8 =>
   (optK (S.q_mmeans y1 y2 y3 y4 o8.2.1) fun o9 =>
   bif inB y0 len then
   (optK (l[Int.toNat y0 + 0]?) fun o11 =>
   (optK (S.q_rmean y5.r y5.lo y5.len y5.w y5.g y5.nw y5.ov o11.2.1) fun o12 =>
   bif !decide (o9.1 = o12.1) then
   some (.inr (.inr (.inl (o9.2.2.1, o9.2.2.2.1, o9.2.2.2.2.1, o9.2.2.2.2.2, (⟨o12.2.1, o12.2.2.1, o12.2.2.2.1, o12.2.2.2.2.1, o12.2.2.2.2.2.1, o12.2.2.2.2.2.2.1, o12.2.2.2.2.2.2.2⟩ : Rr), y6))))
 else
   bif inB y0 len then
   (optK (l[Int.toNat y0 + 0]?) fun o15 =>
   (optK (S.q_rmean y6.r y6.lo y6.len y6.w y6.g y6.nw y6.ov o15.2.1) fun o16 =>
   bif !decide (o9.2.1 = o16.1) then
   some (.inr (.inr (.inl (o9.2.2.1, o9.2.2.2.1, o9.2.2.2.2.1, o9.2.2.2.2.2, (⟨o12.2.1, o12.2.2.1, o12.2.2.2.1, o12.2.2.2.2.1, o12.2.2.2.2.2.1, o12.2.2.2.2.2.2.1, o12.2.2.2.2.2.2.2⟩ : Rr), (⟨o16.2.1, o16.2.2.1, o16.2.2.2.1, o16.2.2.2.2.1, o16.2.2.2.2.2.1, o16.2.2.2.2.2.2.1, o16.2.2.2.2.2.2.2⟩ : Rr)))))
 else
   bif !S.mover o9.2.2.1 o9.2.2.2.1 o9.2.2.2.2.1 o9.2.2.2.2.2 == S.rmover o12.2.1 o12.2.2.1 o12.2.2.2.1 o12.2.2.2.2.1 o12.2.2.2.2.2.1 o12.2.2.2.2.2.2.1 o12.2.2.2.2.2.2.2 o16.2.1 o16.2.2.1 o16.2.2.2.1 o16.2.2.2.2.1 o16.2.2.2.2.2.1 o16.2.2.2.2.2.2.1 o16.2.2.2.2.2.2.2 then
   some (.inr (.inr (.inl (o9.2.2.1, o9.2.2.2.1, o9.2.2.2.2.1, o9.2.2.2.2.2, (⟨o12.2.1, o12.2.2.1, o12.2.2.2.1, o12.2.2.2.2.1, o12.2.2.2.2.2.1, o12.2.2.2.2.2.2.1, o12.2.2.2.2.2.2.2⟩ : Rr), (⟨o16.2.1, o16.2.2.1, o16.2.2.2.1, o16.2.2.2.2.1, o16.2.2.2.2.2.1, o16.2.2.2.2.2.2.1, o16.2.2.2.2.2.2.2⟩ : Rr)))))
 else
   (S.MetricPlays_l0 fu c l len n) (Go.IntKind.wrap .i64 (y0 + 1)) (o9.2.2.1) (o9.2.2.2.1) (o9.2.2.2.2.1) (o9.2.2.2.2.2) ((⟨o12.2.1, o12.2.2.1, o12.2.2.2.1, o12.2.2.2.2.1, o12.2.2.2.2.2.1, o12.2.2.2.2.2.2.1, o12.2.2.2.2.2.2.2⟩ : Rr)) ((⟨o16.2.1, o16.2.2.1, o16.2.2.2.1, o16.2.2.2.2.1, o16.2.2.2.2.2.1, o16.2.2.2.2.2.2.1, o16.2.2.2.2.2.2.2⟩ : Rr))))
 else
   none))
 else
   none))
 else
   none)
 else
   none
 else
   some (.inr (.inr (.inr (y0, decide (y0 < ((len : Nat) : Int)), y1, y2, y3, y4, y5, y6))))
theorem S.MetricPlays_l0_v {R : Type} (fu : Nat) (c : Cf) (l : OL) (len : Nat) (K : Ex → St → Option R) : ∀ (n : Nat) (y0 : Int) (y1 : Cf) (y2 : Bool) (y3 : Rg) (y4 : Rg) (y5 : Rr) (y6 : Rr), loopRun (C_MetricPlays fu c l len) G28s S.MetricPlays_b0 n (S.MetricPlays_s0 c l len (y0) (y1) (y2) (y3) (y4) (y5) (y6)) K = oK (β := (Cf × Bool × Rg × Rg × Rr × Rr) ⊕ (Cf × Bool × Rg × Rg × Rr × Rr) ⊕ (Cf × Bool × Rg × Rg × Rr × Rr) ⊕ (Int × Bool × Cf × Bool × Rg × Rg × Rr × Rr)) (S.MetricPlays_g0 c l len K) (S.MetricPlays_l0 fu c l len n y0 y1 y2 y3 y4 y5 y6)
  | 0, _, _, _, _, _, _, _ => rfl
  | n + 1, y0, y1, y2, y3, y4, y5, y6 => (S.MetricPlays_l0_k fu c l len n K y0 y1 y2 y3 y4 y5 y6).trans (bif_lift (f := (oK (S.MetricPlays_g0 c l len K))) (bif_lift (f := (oK (S.MetricPlays_g0 c l len K))) (opt_lift fun o4 => (bif_lift (f := (oK (S.MetricPlays_g0 c l len K))) (bif_lift (f := (oK (S.MetricPlays_g0 c l len K))) (opt_lift fun o7 => (bif_lift (f := (oK (S.MetricPlays_g0 c l len K))) (opt_lift fun o9 => (opt_lift fun o10 => (bif_lift (f := (oK (S.MetricPlays_g0 c l len K))) (opt_lift fun o12 => (bif_lift (f := (oK (S.MetricPlays_g0 c l len K))) (opt_lift fun o14 => (opt_lift fun o15 => (bif_lift (f := (oK (S.MetricPlays_g0 c l len K))) rfl (bif_lift (f := (oK (S.MetricPlays_g0 c l len K))) (opt_lift fun o18 => (opt_lift fun o19 => (bif_lift (f := (oK (S.MetricPlays_g0 c l len K))) (opt_lift fun o21 => (opt_lift fun o22 => (bif_lift (f := (oK (S.MetricPlays_g0 c l len K))) rfl (bif_lift (f := (oK (S.MetricPlays_g0 c l len K))) (opt_lift fun o25 => (opt_lift fun o26 => (bif_lift (f := (oK (S.MetricPlays_g0 c l len K))) rfl (bif_lift (f := (oK (S.MetricPlays_g0 c l len K))) rfl (S.MetricPlays_l0_v fu c l len K n (Go.IntKind.wrap .i64 (y0 + 1)) (o19.2.2.1) (o19.2.2.2.1) (o19.2.2.2.2.1) (o19.2.2.2.2.2) ((⟨o22.2.1, o22.2.2.1, o22.2.2.2.1, o22.2.2.2.2.1, o22.2.2.2.2.2.1, o22.2.2.2.2.2.2.1, o22.2.2.2.2.2.2.2⟩ : Rr)) ((⟨o26.2.1, o26.2.2.1, o26.2.2.2.1, o26.2.2.2.2.1, o26.2.2.2.2.2.1, o26.2.2.2.2.2.2.1, o26.2.2.2.2.2.2.2⟩ : Rr))))))) rfl)))) rfl))) rfl)))) rfl)) rfl))) rfl)) rfl) (bif_lift (f := (oK (S.MetricPlays_g0 c l len K))) (bif_lift (f := (oK (S.MetricPlays_g0 c l len K))) (opt_lift fun o8 => (opt_lift fun o9 => (bif_lift (f := (oK (S.MetricPlays_g0 c l len K))) (opt_lift fun o11 => (opt_lift fun o12 => (bif_lift (f := (oK (S.MetricPlays_g0 c l len K))) rfl (bif_lift (f := (oK (S.MetricPlays_g0 c l len K))) (opt_lift fun o15 => (opt_lift fun o16 => (bif_lift (f := (oK (S.MetricPlays_g0 c l len K))) (opt_lift fun o18 => (opt_lift fun o19 => (bif_lift (f := (oK (S.MetricPlays_g0 c l len K))) rfl (bif_lift (f := (oK (S.MetricPlays_g0 c l len K))) (opt_lift fun o22 => (opt_lift fun o23 => (bif_lift (f := (oK (S.MetricPlays_g0 c l len K))) rfl (bif_lift (f := (oK (S.MetricPlays_g0 c l len K))) rfl (S.MetricPlays_l0_v fu c l len K n (Go.IntKind.wrap .i64 (y0 + 1)) (o16.2.2.1) (o16.2.2.2.1) (o16.2.2.2.2.1) (o16.2.2.2.2.2) ((⟨o19.2.1, o19.2.2.1, o19.2.2.2.1, o19.2.2.2.2.1, o19.2.2.2.2.2.1, o19.2.2.2.2.2.2.1, o19.2.2.2.2.2.2.2⟩ : Rr)) ((⟨o23.2.1, o23.2.2.1, o23.2.2.2.1, o23.2.2.2.2.1, o23.2.2.2.2.2.1, o23.2.2.2.2.2.2.1, o23.2.2.2.2.2.2.2⟩ : Rr))))))) rfl)))) rfl))) rfl)))) rfl))) rfl) (bif_lift (f := (oK (S.MetricPlays_g0 c l len K))) (opt_lift fun o8 => (opt_lift fun o9 => (bif_lift (f := (oK (S.MetricPlays_g0 c l len K))) (opt_lift fun o11 => (opt_lift fun o12 => (bif_lift (f := (oK (S.MetricPlays_g0 c l len K))) rfl (bif_lift (f := (oK (S.MetricPlays_g0 c l len K))) (opt_lift fun o15 => (opt_lift fun o16 => (bif_lift (f := (oK (S.MetricPlays_g0 c l len K))) rfl (bif_lift (f := (oK (S.MetricPlays_g0 c l len K))) rfl (S.MetricPlays_l0_v fu c l len K n (Go.IntKind.wrap .i64 (y0 + 1)) (o9.2.2.1) (o9.2.2.2.1) (o9.2.2.2.2.1) (o9.2.2.2.2.2) ((⟨o12.2.1, o12.2.2.1, o12.2.2.2.1, o12.2.2.2.2.1, o12.2.2.2.2.2.1, o12.2.2.2.2.2.2.1, o12.2.2.2.2.2.2.2⟩ : Rr)) ((⟨o16.2.1, o16.2.2.1, o16.2.2.2.1, o16.2.2.2.2.1, o16.2.2.2.2.2.1, o16.2.2.2.2.2.2.1, o16.2.2.2.2.2.2.2⟩ : Rr))))))) rfl)))) rfl))) rfl)))) rfl) rfl)
theorem S.MetricPlays_a0_3_k {R : Type} (fu : Nat) (c : Cf) (l : OL) (len : Nat) (z0 : Int) (z1 : Bool) (z2 : Cf) (z3 : Bool) (z4 : Rg) (z5 : Rg) (z6 : Rr) (z7 : Rr) (k : AVal → List Blk → Option R) : contOf (C_MetricPlays fu c l len) G28s (bodyOf Try.f3) [1, 1, 1, 1, 1, 0, 1, 0] (retK tis F3 Try.f3 (List.length ([.rows (.pair (.int .i64) (.pair (.int .i64) (.pair (.int .i64) (.pair (.int .i64) (.pair (.int .i64) (.pair (.int .i64) (.pair (.int .i64) (.pair (.int .i64) (.pair (.int .i64) (.pair (.int .i64) (.pair (.int .i64) (.pair (.int .i64) (.pair (.int .i64) (.pair (.int .i64) (.pair (.int .i64) (.pair (.int .i64) (.pair (.int .i64) (.pair (.int .i64) (.pair (.int .i64) (.pair (.int .i64) (.pair (.int .i64) (.pair (.int .i64) (.int .i64))))))))))))))))))))))) l true] : List Blk)) k) (Ex.exit 0) (S.MetricPlays_x0_3 c l len (z0) (z1) (z2) (z3) (z4) (z5) (z6) (z7)) =
  (k (.bool true) ([.rows (Cd.pair (Cd.int .i64) (Cd.pair (Cd.int .i64) (Cd.pair (Cd.int .i64) (Cd.pair (Cd.int .i64) (Cd.pair (Cd.int .i64) (Cd.pair (Cd.int .i64) (Cd.pair (Cd.int .i64) (Cd.pair (Cd.int .i64) (Cd.pair (Cd.int .i64) (Cd.pair (Cd.int .i64) (Cd.pair (Cd.int .i64) (Cd.pair (Cd.int .i64) (Cd.pair (Cd.int .i64) (Cd.pair (Cd.int .i64) (Cd.pair (Cd.int .i64) (Cd.pair (Cd.int .i64) (Cd.pair (Cd.int .i64) (Cd.pair (Cd.int .i64) (Cd.pair (Cd.int .i64) (Cd.pair (Cd.int .i64) (Cd.pair (Cd.int .i64) (Cd.pair (Cd.int .i64) (Cd.int .i64))))))))))))))))))))))) l true])) := by kernel_rfl
noncomputable def S.MetricPlays_a0_3 (fu : Nat) (c : Cf) (l : OL) (len : Nat) (z0 : Int) (z1 : Bool) (z2 : Cf) (z3 : Bool) (z4 : Rg) (z5 : Rg) (z6 : Rr) (z7 : Rr) : Option (Bool) :=
  some (true)
theorem S.MetricPlays_a0_3_v {R : Type} (fu : Nat) (c : Cf) (l : OL) (len : Nat) (z0 : Int) (z1 : Bool) (z2 : Cf) (z3 : Bool) (z4 : Rg) (z5 : Rg) (z6 : Rr) (z7 : Rr) (k : AVal → List Blk → Option R) : contOf (C_MetricPlays fu c l len) G28s (bodyOf Try.f3) [1, 1, 1, 1, 1, 0, 1, 0] (retK tis F3 Try.f3 (List.length ([.rows (.pair (.int .i64) (.pair (.int .i64) (.pair (.int .i64) (.pair (.int .i64) (.pair (.int .i64) (.pair (.int .i64) (.pair (.int .i64) (.pair (.int .i64) (.pair (.int .i64) (.pair (.int .i64) (.pair (.int .i64) (.pair (.int .i64) (.pair (.int .i64) (.pair (.int .i64) (.pair (.int .i64) (.pair (.int .i64) (.pair (.int .i64) (.pair (.int .i64) (.pair (.int .i64) (.pair (.int .i64) (.pair (.int .i64) (.pair (.int .i64) (.int .i64))))))))))))))))))))))) l true] : List Blk)) k) (Ex.exit 0) (S.MetricPlays_x0_3 c l len (z0) (z1) (z2) (z3) (z4) (z5) (z6) (z7)) = oK (S.MetricPlays_gk c l len k) (S.MetricPlays_a0_3 fu c l len z0 z1 z2 z3 z4 z5 z6 z7) :=
  (S.MetricPlays_a0_3_k fu c l len z0 z1 z2 z3 z4 z5 z6 z7 k).trans rfl
theorem S.MetricPlays_a0_2_k {R : Type} (fu : Nat) (c : Cf) (l : OL) (len : Nat) (z0 : Cf) (z1 : Bool) (z2 : Rg) (z3 : Rg) (z4 : Rr) (z5 : Rr) (k : AVal → List Blk → Option R) : contOf (C_MetricPlays fu c l len) G28s (bodyOf Try.f3) [1, 1, 1, 1, 1, 0, 1, 0] (retK tis F3 Try.f3 (List.length ([.rows (.pair (.int .i64) (.pair (.int .i64) (.pair (.int .i64) (.pair (.int .i64) (.pair (.int .i64) (.pair (.int .i64) (.pair (.int .i64) (.pair (.int .i64) (.pair (.int .i64) (.pair (.int .i64) (.pair (.int .i64) (.pair (.int .i64) (.pair (.int .i64) (.pair (.int .i64) (.pair (.int .i64) (.pair (.int .i64) (.pair (.int .i64) (.pair (.int .i64) (.pair (.int .i64) (.pair (.int .i64) (.pair (.int .i64) (.pair (.int .i64) (.int .i64))))))))))))))))))))))) l true] : List Blk)) k) (Ex.ret) (S.MetricPlays_x0_2 c l len (z0) (z1) (z2) (z3) (z4) (z5)) =
  (k (.bool false) ([.rows (Cd.pair (Cd.int .i64) (Cd.pair (Cd.int .i64) (Cd.pair (Cd.int .i64) (Cd.pair (Cd.int .i64) (Cd.pair (Cd.int .i64) (Cd.pair (Cd.int .i64) (Cd.pair (Cd.int .i64) (Cd.pair (Cd.int .i64) (Cd.pair (Cd.int .i64) (Cd.pair (Cd.int .i64) (Cd.pair (Cd.int .i64) (Cd.pair (Cd.int .i64) (Cd.pair (Cd.int .i64) (Cd.pair (Cd.int .i64) (Cd.pair (Cd.int .i64) (Cd.pair (Cd.int .i64) (Cd.pair (Cd.int .i64) (Cd.pair (Cd.int .i64) (Cd.pair (Cd.int .i64) (Cd.pair (Cd.int .i64) (Cd.pair (Cd.int .i64) (Cd.pair (Cd.int .i64) (Cd.int .i64))))))))))))))))))))))) l true])) := by kernel_rfl
noncomputable def S.MetricPlays_a0_2 (fu : Nat) (c : Cf) (l : OL) (len : Nat) (z0 : Cf) (z1 : Bool) (z2 : Rg) (z3 : Rg) (z4 : Rr) (z5 : Rr) : Option (Bool) :=
  some (false)
theorem S.MetricPlays_a0_2_v {R : Type} (fu : Nat) (c : Cf) (l : OL) (len : Nat) (z0 : Cf) (z1 : Bool) (z2 : Rg) (z3 : Rg) (z4 : Rr) (z5 : Rr) (k : AVal → List Blk → Option R) : contOf (C_MetricPlays fu c l len) G28s (bodyOf Try.f3) [1, 1, 1, 1, 1, 0, 1, 0] (retK tis F3 Try.f3 (List.length ([.rows (.pair (.int .i64) (.pair (.int .i64) (.pair (.int .i64) (.pair (.int .i64) (.pair (.int .i64) (.pair (.int .i64) (.pair (.int .i64) (.pair (.int .i64) (.pair (.int .i64) (.pair (.int .i64) (.pair (.int .i64) (.pair (.int .i64) (.pair (.int .i64) (.pair (.int .i64) (.pair (.int .i64) (.pair (.int .i64) (.pair (.int .i64) (.pair (.int .i64) (.pair (.int .i64) (.pair (.int .i64) (.pair (.int .i64) (.pair (.int .i64) (.int .i64))))))))))))))))))))))) l true] : List Blk)) k) (Ex.ret) (S.MetricPlays_x0_2 c l len (z0) (z1) (z2) (z3) (z4) (z5)) = oK (S.MetricPlays_gk c l len k) (S.MetricPlays_a0_2 fu c l len z0 z1 z2 z3 z4 z5) :=
  (S.MetricPlays_a0_2_k fu c l len z0 z1 z2 z3 z4 z5 k).trans rfl
theorem S.MetricPlays_a0_1_k {R : Type} (fu : Nat) (c : Cf) (l : OL) (len : Nat) (z0 : Cf) (z1 : Bool) (z2 : Rg) (z3 : Rg) (z4 : Rr) (z5 : Rr) (k : AVal → List Blk → Option R) : contOf (C_MetricPlays fu c l len) G28s (bodyOf Try.f3) [1, 1, 1, 1, 1, 0, 1, 0] (retK tis F3 Try.f3 (List.length ([.rows (.pair (.int .i64) (.pair (.int .i64) (.pair (.int .i64) (.pair (.int .i64) (.pair (.int .i64) (.pair (.int .i64) (.pair (.int .i64) (.pair (.int .i64) (.pair (.int .i64) (.pair (.int .i64) (.pair (.int .i64) (.pair (.int .i64) (.pair (.int .i64) (.pair (.int .i64) (.pair (.int .i64) (.pair (.int .i64) (.pair (.int .i64) (.pair (.int .i64) (.pair (.int .i64) (.pair (.int .i64) (.pair (.int .i64) (.pair (.int .i64) (.int .i64))))))))))))))))))))))) l true] : List Blk)) k) (Ex.ret) (S.MetricPlays_x0_1 c l len (z0) (z1) (z2) (z3) (z4) (z5)) =
  (k (.bool false) ([.rows (Cd.pair (Cd.int .i64) (Cd.pair (Cd.int .i64) (Cd.pair (Cd.int .i64) (Cd.pair (Cd.int .i64) (Cd.pair (Cd.int .i64) (Cd.pair (Cd.int .i64) (Cd.pair (Cd.int .i64) (Cd.pair (Cd.int .i64) (Cd.pair (Cd.int .i64) (Cd.pair (Cd.int .i64) (Cd.pair (Cd.int .i64) (Cd.pair (Cd.int .i64) (Cd.pair (Cd.int .i64) (Cd.pair (Cd.int .i64) (Cd.pair (Cd.int .i64) (Cd.pair (Cd.int .i64) (Cd.pair (Cd.int .i64) (Cd.pair (Cd.int .i64) (Cd.pair (Cd.int .i64) (Cd.pair (Cd.int .i64) (Cd.pair (Cd.int .i64) (Cd.pair (Cd.int .i64) (Cd.int .i64))))))))))))))))))))))) l true])) := by kernel_rfl
noncomputable def S.MetricPlays_a0_1 (fu : Nat) (c : Cf) (l : OL) (len : Nat) (z0 : Cf) (z1 : Bool) (z2 : Rg) (z3 : Rg) (z4 : Rr) (z5 : Rr) : Option (Bool) :=
  some (false)
theorem S.MetricPlays_a0_1_v {R : Type} (fu : Nat) (c : Cf) (l : OL) (len : Nat) (z0 : Cf) (z1 : Bool) (z2 : Rg) (z3 : Rg) (z4 : Rr) (z5 : Rr) (k : AVal → List Blk → Option R) : contOf (C_MetricPlays fu c l len) G28s (bodyOf Try.f3) [1, 1, 1, 1, 1, 0, 1, 0] (retK tis F3 Try.f3 (List.length ([.rows (.pair (.int .i64) (.pair (.int .i64) (.pair (.int .i64) (.pair (.int .i64) (.pair (.int .i64) (.pair (.int .i64) (.pair (.int .i64) (.pair (.int .i64) (.pair (.int .i64) (.pair (.int .i64) (.pair (.int .i64) (.pair (.int .i64) (.pair (.int .i64) (.pair (.int .i64) (.pair (.int .i64) (.pair (.int .i64) (.pair (.int .i64) (.pair (.int .i64) (.pair (.int .i64) (.pair (.int .i64) (.pair (.int .i64) (.pair (.int .i64) (.int .i64))))))))))))))))))))))) l true] : List Blk)) k) (Ex.ret) (S.MetricPlays_x0_1 c l len (z0) (z1) (z2) (z3) (z4) (z5)) = oK (S.MetricPlays_gk c l len k) (S.MetricPlays_a0_1 fu c l len z0 z1 z2 z3 z4 z5) :=
  (S.MetricPlays_a0_1_k fu c l len z0 z1 z2 z3 z4 z5 k).trans rfl
theorem S.MetricPlays_a0_0_k {R : Type} (fu : Nat) (c : Cf) (l : OL) (len : Nat) (z0 : Cf) (z1 : Bool) (z2 : Rg) (z3 : Rg) (z4 : Rr) (z5 : Rr) (k : AVal → List Blk → Option R) : contOf (C_MetricPlays fu c l len) G28s (bodyOf Try.f3) [1, 1, 1, 1, 1, 0, 1, 0] (retK tis F3 Try.f3 (List.length ([.rows (.pair (.int .i64) (.pair (.int .i64) (.pair (.int .i64) (.pair (.int .i64) (.pair (.int .i64) (.pair (.int .i64) (.pair (.int .i64) (.pair (.int .i64) (.pair (.int .i64) (.pair (.int .i64) (.pair (.int .i64) (.pair (.int .i64) (.pair (.int .i64) (.pair (.int .i64) (.pair (.int .i64) (.pair (.int .i64) (.pair (.int .i64) (.pair (.int .i64) (.pair (.int .i64) (.pair (.int .i64) (.pair (.int .i64) (.pair (.int .i64) (.int .i64))))))))))))))))))))))) l true] : List Blk)) k) (Ex.ret) (S.MetricPlays_x0_0 c l len (z0) (z1) (z2) (z3) (z4) (z5)) =
  (k (.bool false) ([.rows (Cd.pair (Cd.int .i64) (Cd.pair (Cd.int .i64) (Cd.pair (Cd.int .i64) (Cd.pair (Cd.int .i64) (Cd.pair (Cd.int .i64) (Cd.pair (Cd.int .i64) (Cd.pair (Cd.int .i64) (Cd.pair (Cd.int .i64) (Cd.pair (Cd.int .i64) (Cd.pair (Cd.int .i64) (Cd.pair (Cd.int .i64) (Cd.pair (Cd.int .i64) (Cd.pair (Cd.int .i64) (Cd.pair (Cd.int .i64) (Cd.pair (Cd.int .i64) (Cd.pair (Cd.int .i64) (Cd.pair (Cd.int .i64) (Cd.pair (Cd.int .i64) (Cd.pair (Cd.int .i64) (Cd.pair (Cd.int .i64) (Cd.pair (Cd.int .i64) (Cd.pair (Cd.int .i64) (Cd.int .i64))))))))))))))))))))))) l true])) := by kernel_rfl
noncomputable def S.MetricPlays_a0_0 (fu : Nat) (c : Cf) (l : OL) (len : Nat) (z0 : Cf) (z1 : Bool) (z2 : Rg) (z3 : Rg) (z4 : Rr) (z5 : Rr) : Option (Bool) :=
  some (false)
theorem S.MetricPlays_a0_0_v {R : Type} (fu : Nat) (c : Cf) (l : OL) (len : Nat) (z0 : Cf) (z1 : Bool) (z2 : Rg) (z3 : Rg) (z4 : Rr) (z5 : Rr) (k : AVal → List Blk → Option R) : contOf (C_MetricPlays fu c l len) G28s (bodyOf Try.f3) [1, 1, 1, 1, 1, 0, 1, 0] (retK tis F3 Try.f3 (List.length ([.rows (.pair (.int .i64) (.pair (.int .i64) (.pair (.int .i64) (.pair (.int .i64) (.pair (.int .i64) (.pair (.int .i64) (.pair (.int .i64) (.pair (.int .i64) (.pair (.int .i64) (.pair (.int .i64) (.pair (.int .i64) (.pair (.int .i64) (.pair (.int .i64) (.pair (.int .i64) (.pair (.int .i64) (.pair (.int .i64) (.pair (.int .i64) (.pair (.int .i64) (.pair (.int .i64) (.pair (.int .i64) (.pair (.int .i64) (.pair (.int .i64) (.int .i64))))))))))))))))))))))) l true] : List Blk)) k) (Ex.ret) (S.MetricPlays_x0_0 c l len (z0) (z1) (z2) (z3) (z4) (z5)) = oK (S.MetricPlays_gk c l len k) (S.MetricPlays_a0_0 fu c l len z0 z1 z2 z3 z4 z5) :=
  (S.MetricPlays_a0_0_k fu c l len z0 z1 z2 z3 z4 z5 k).trans rfl
theorem S.MetricPlays_k {R : Type} (fu : Nat) (c : Cf) (l : OL) (len : Nat) (k : AVal → List Blk → Option R) : fnEval tis F3 fu G28s Try.f3 [.agg (cfA c), .slice 23 0 0 len none] [.rows (.pair (.int .i64) (.pair (.int .i64) (.pair (.int .i64) (.pair (.int .i64) (.pair (.int .i64) (.pair (.int .i64) (.pair (.int .i64) (.pair (.int .i64) (.pair (.int .i64) (.pair (.int .i64) (.pair (.int .i64) (.pair (.int .i64) (.pair (.int .i64) (.pair (.int .i64) (.pair (.int .i64) (.pair (.int .i64) (.pair (.int .i64) (.pair (.int .i64) (.pair (.int .i64) (.pair (.int .i64) (.pair (.int .i64) (.pair (.int .i64) (.int .i64))))))))))))))))))))))) l true] k =
  ((optK (S.q_mnew_p c) fun o2 =>
   (Sum.elim (fun o3 : Unit =>
    (optK (S.q_rmnew_p c) fun o4 =>
   (Sum.elim (fun o5 : Unit =>
    k (.bool true) ([.rows (Cd.pair (Cd.int .i64) (Cd.pair (Cd.int .i64) (Cd.pair (Cd.int .i64) (Cd.pair (Cd.int .i64) (Cd.pair (Cd.int .i64) (Cd.pair (Cd.int .i64) (Cd.pair (Cd.int .i64) (Cd.pair (Cd.int .i64) (Cd.pair (Cd.int .i64) (Cd.pair (Cd.int .i64) (Cd.pair (Cd.int .i64) (Cd.pair (Cd.int .i64) (Cd.pair (Cd.int .i64) (Cd.pair (Cd.int .i64) (Cd.pair (Cd.int .i64) (Cd.pair (Cd.int .i64) (Cd.pair (Cd.int .i64) (Cd.pair (Cd.int .i64) (Cd.pair (Cd.int .i64) (Cd.pair (Cd.int .i64) (Cd.pair (Cd.int .i64) (Cd.pair (Cd.int .i64) (Cd.int .i64))))))))))))))))))))))) l true])) (fun o5 : Rr × Rr =>
    k (.bool false) ([.rows (Cd.pair (Cd.int .i64) (Cd.pair (Cd.int .i64) (Cd.pair (Cd.int .i64) (Cd.pair (Cd.int .i64) (Cd.pair (Cd.int .i64) (Cd.pair (Cd.int .i64) (Cd.pair (Cd.int .i64) (Cd.pair (Cd.int .i64) (Cd.pair (Cd.int .i64) (Cd.pair (Cd.int .i64) (Cd.pair (Cd.int .i64) (Cd.pair (Cd.int .i64) (Cd.pair (Cd.int .i64) (Cd.pair (Cd.int .i64) (Cd.pair (Cd.int .i64) (Cd.pair (Cd.int .i64) (Cd.pair (Cd.int .i64) (Cd.pair (Cd.int .i64) (Cd.pair (Cd.int .i64) (Cd.pair (Cd.int .i64) (Cd.pair (Cd.int .i64) (Cd.pair (Cd.int .i64) (Cd.int .i64))))))))))))))))))))))) l true])) (o4)))) (fun o3 : Cf × Rg × Rg =>
    (optK (S.q_rmnew_p c) fun o4 =>
   (Sum.elim (fun o5 : Unit =>
    k (.bool false) ([.rows (Cd.pair (Cd.int .i64) (Cd.pair (Cd.int .i64) (Cd.pair (Cd.int .i64) (Cd.pair (Cd.int .i64) (Cd.pair (Cd.int .i64) (Cd.pair (Cd.int .i64) (Cd.pair (Cd.int .i64) (Cd.pair (Cd.int .i64) (Cd.pair (Cd.int .i64) (Cd.pair (Cd.int .i64) (Cd.pair (Cd.int .i64) (Cd.pair (Cd.int .i64) (Cd.pair (Cd.int .i64) (Cd.pair (Cd.int .i64) (Cd.pair (Cd.int .i64) (Cd.pair (Cd.int .i64) (Cd.pair (Cd.int .i64) (Cd.pair (Cd.int .i64) (Cd.pair (Cd.int .i64) (Cd.pair (Cd.int .i64) (Cd.pair (Cd.int .i64) (Cd.pair (Cd.int .i64) (Cd.int .i64))))))))))))))))))))))) l true])) (fun o5 : Rr × Rr =>
    bif decide (100 < ((len : Nat) : Int)) then
   k (.bool true) ([.rows (Cd.pair (Cd.int .i64) (Cd.pair (Cd.int .i64) (Cd.pair (Cd.int .i64) (Cd.pair (Cd.int .i64) (Cd.pair (Cd.int .i64) (Cd.pair (Cd.int .i64) (Cd.pair (Cd.int .i64) (Cd.pair (Cd.int .i64) (Cd.pair (Cd.int .i64) (Cd.pair (Cd.int .i64) (Cd.pair (Cd.int .i64) (Cd.pair (Cd.int .i64) (Cd.pair (Cd.int .i64) (Cd.pair (Cd.int .i64) (Cd.pair (Cd.int .i64) (Cd.pair (Cd.int .i64) (Cd.pair (Cd.int .i64) (Cd.pair (Cd.int .i64) (Cd.pair (Cd.int .i64) (Cd.pair (Cd.int .i64) (Cd.pair (Cd.int .i64) (Cd.pair (Cd.int .i64) (Cd.int .i64))))))))))))))))))))))) l true])
 else
   loopRun (C_MetricPlays fu c l len) G28s S.MetricPlays_b0 fu (S.MetricPlays_s0 c l len (0) (o3.1) (false) (o3.2.1) (o3.2.2) (o5.1) (o5.2)) (contOf (C_MetricPlays fu c l len) G28s (bodyOf Try.f3) [1, 1, 1, 1, 1, 0, 1, 0] (retK tis F3 Try.f3 (List.length ([.rows (.pair (.int .i64) (.pair (.int .i64) (.pair (.int .i64) (.pair (.int .i64) (.pair (.int .i64) (.pair (.int .i64) (.pair (.int .i64) (.pair (.int .i64) (.pair (.int .i64) (.pair (.int .i64) (.pair (.int .i64) (.pair (.int .i64) (.pair (.int .i64) (.pair (.int .i64) (.pair (.int .i64) (.pair (.int .i64) (.pair (.int .i64) (.pair (.int .i64) (.pair (.int .i64) (.pair (.int .i64) (.pair (.int .i64) (.pair (.int .i64) (.int .i64))))))))))))))))))))))) l true] : List Blk)) k))) (o4)))) (o2)))) := by kernel_rfl
noncomputable def S.MetricPlays (fu : Nat) (c : Cf) (l : OL) (len : Nat) : Option (Bool) :=
  (optK (S.q_mnew_p c) fun o2 =>
   (Sum.elim (fun o3 : Unit =>
    (optK (S.q_rmnew_p c) fun o4 =>
   (Sum.elim (fun o5 : Unit =>
    some (true)) (fun o5 : Rr × Rr =>
    some (false)) (o4)))) (fun o3 : Cf × Rg × Rg =>
    (optK (S.q_rmnew_p c) fun o4 =>
   (Sum.elim (fun o5 : Unit =>
    some (false)) (fun o5 : Rr × Rr =>
    bif decide (100 < ((len : Nat) : Int)) then
   some (true)
 else
   optK (S.MetricPlays_l0 fu c l len fu (0) (o3.1) (false) (o3.2.1) (o3.2.2) (o5.1) (o5.2)) (Sum.elim (fun z : Cf × Bool × Rg × Rg × Rr × Rr => S.MetricPlays_a0_0 fu c l len (z.1) (z.2.1) (z.2.2.1) (z.2.2.2.1) (z.2.2.2.2.1) (z.2.2.2.2.2)) (Sum.elim (fun z : Cf × Bool × Rg × Rg × Rr × Rr => S.MetricPlays_a0_1 fu c l len (z.1) (z.2.1) (z.2.2.1) (z.2.2.2.1) (z.2.2.2.2.1) (z.2.2.2.2.2)) (Sum.elim (fun z : Cf × Bool × Rg × Rg × Rr × Rr => S.MetricPlays_a0_2 fu c l len (z.1) (z.2.1) (z.2.2.1) (z.2.2.2.1) (z.2.2.2.2.1) (z.2.2.2.2.2)) (fun z : Int × Bool × Cf × Bool × Rg × Rg × Rr × Rr => S.MetricPlays_a0_3 fu c l len (z.1) (z.2.1) (z.2.2.1) (z.2.2.2.1) (z.2.2.2.2.1) (z.2.2.2.2.2.1) (z.2.2.2.2.2.2.1) (z.2.2.2.2.2.2.2)))))) (o4)))) (o2)))
theorem S.MetricPlays_v {R : Type} (fu : Nat) (c : Cf) (l : OL) (len : Nat) (k : AVal → List Blk → Option R) : fnEval tis F3 fu G28s Try.f3 [.agg (cfA c), .slice 23 0 0 len none] [.rows (.pair (.int .i64) (.pair (.int .i64) (.pair (.int .i64) (.pair (.int .i64) (.pair (.int .i64) (.pair (.int .i64) (.pair (.int .i64) (.pair (.int .i64) (.pair (.int .i64) (.pair (.int .i64) (.pair (.int .i64) (.pair (.int .i64) (.pair (.int .i64) (.pair (.int .i64) (.pair (.int .i64) (.pair (.int .i64) (.pair (.int .i64) (.pair (.int .i64) (.pair (.int .i64) (.pair (.int .i64) (.pair (.int .i64) (.pair (.int .i64) (.int .i64))))))))))))))))))))))) l true] k = oK (fun v : Bool => k (.bool v) [(.rows (Cd.pair (Cd.int .i64) (Cd.pair (Cd.int .i64) (Cd.pair (Cd.int .i64) (Cd.pair (Cd.int .i64) (Cd.pair (Cd.int .i64) (Cd.pair (Cd.int .i64) (Cd.pair (Cd.int .i64) (Cd.pair (Cd.int .i64) (Cd.pair (Cd.int .i64) (Cd.pair (Cd.int .i64) (Cd.pair (Cd.int .i64) (Cd.pair (Cd.int .i64) (Cd.pair (Cd.int .i64) (Cd.pair (Cd.int .i64) (Cd.pair (Cd.int .i64) (Cd.pair (Cd.int .i64) (Cd.pair (Cd.int .i64) (Cd.pair (Cd.int .i64) (Cd.pair (Cd.int .i64) (Cd.pair (Cd.int .i64) (Cd.pair (Cd.int .i64) (Cd.pair (Cd.int .i64) (Cd.int .i64))))))))))))))))))))))) l true)]) (S.MetricPlays fu c l len) :=
  (S.MetricPlays_k fu c l len k).trans (by
      unfold S.MetricPlays
      refine opt_lift fun o2 => ?_
      refine sumF_lift (f := (oK (S.MetricPlays_gk c l len k))) (fun o3 => ?_) (fun o3 => ?_) _
      · 
        refine opt_lift fun o4 => ?_
        refine sumF_lift (f := (oK (S.MetricPlays_gk c l len k))) (fun o5 => ?_) (fun o5 => ?_) _
        · 
          exact rfl
        · 
          exact rfl
      · 
        refine opt_lift fun o4 => ?_
        refine sumF_lift (f := (oK (S.MetricPlays_gk c l len k))) (fun o5 => ?_) (fun o5 => ?_) _
        · 
          exact rfl
        · 
          refine bif_lift (f := (oK (S.MetricPlays_gk c l len k))) ?_ ?_
          · 
            exact rfl
          · 
            exact (arr_lift (S.MetricPlays_l0_v fu c l len (contOf (C_MetricPlays fu c l len) G28s (bodyOf Try.f3) [1, 1, 1, 1, 1, 0, 1, 0] (retK tis F3 Try.f3 (List.length ([.rows (.pair (.int .i64) (.pair (.int .i64) (.pair (.int .i64) (.pair (.int .i64) (.pair (.int .i64) (.pair (.int .i64) (.pair (.int .i64) (.pair (.int .i64) (.pair (.int .i64) (.pair (.int .i64) (.pair (.int .i64) (.pair (.int .i64) (.pair (.int .i64) (.pair (.int .i64) (.pair (.int .i64) (.pair (.int .i64) (.pair (.int .i64) (.pair (.int .i64) (.pair (.int .i64) (.pair (.int .i64) (.pair (.int .i64) (.pair (.int .i64) (.int .i64))))))))))))))))))))))) l true] : List Blk)) k)) fu (0) (o3.1) (false) (o3.2.1) (o3.2.2) (o5.1) (o5.2)) ((sum_lift (fun z => S.MetricPlays_a0_0_v fu c l len (z.1) (z.2.1) (z.2.2.1) (z.2.2.2.1) (z.2.2.2.2.1) (z.2.2.2.2.2) k) (sum_lift (fun z => S.MetricPlays_a0_1_v fu c l len (z.1) (z.2.1) (z.2.2.1) (z.2.2.2.1) (z.2.2.2.2.1) (z.2.2.2.2.2) k) (sum_lift (fun z => S.MetricPlays_a0_2_v fu c l len (z.1) (z.2.1) (z.2.2.1) (z.2.2.2.1) (z.2.2.2.2.1) (z.2.2.2.2.2) k) (fun z => S.MetricPlays_a0_3_v fu c l len (z.1) (z.2.1) (z.2.2.1) (z.2.2.2.1) (z.2.2.2.2.1) (z.2.2.2.2.2.1) (z.2.2.2.2.2.2.1) (z.2.2.2.2.2.2.2) k))))))
      )
noncomputable def H3 : Hnd := fun R args σ k => match args, σ with
  | [.agg [.int .i64 target_, .int .i64 util_, .int .i64 stable_, .int .i64 panic_, .int .i64 grain_, .int .i64 threshold_, .int .i64 up_, .int .i64 down_, .int .i64 min_, .int .i64 max_, .int .i64 initial_, .int .i64 grace_, .int .i64 delay_, .int .i64 burst_, .int .i64 limit_, .int .i64 queue_, .int .i64 timeout_, .int .i64 ready_, .int .i64 subset_, .int .i64 sample_], .slice 23 0 0 len none], [.rows (.pair (.int .i64) (.pair (.int .i64) (.pair (.int .i64) (.pair (.int .i64) (.pair (.int .i64) (.pair (.int .i64) (.pair (.int .i64) (.pair (.int .i64) (.pair (.int .i64) (.pair (.int .i64) (.pair (.int .i64) (.pair (.int .i64) (.pair (.int .i64) (.pair (.int .i64) (.pair (.int .i64) (.pair (.int .i64) (.pair (.int .i64) (.pair (.int .i64) (.pair (.int .i64) (.pair (.int .i64) (.pair (.int .i64) (.pair (.int .i64) (.int .i64))))))))))))))))))))))) l true] => oK (fun v : Bool => k (.bool v) [(.rows (Cd.pair (Cd.int .i64) (Cd.pair (Cd.int .i64) (Cd.pair (Cd.int .i64) (Cd.pair (Cd.int .i64) (Cd.pair (Cd.int .i64) (Cd.pair (Cd.int .i64) (Cd.pair (Cd.int .i64) (Cd.pair (Cd.int .i64) (Cd.pair (Cd.int .i64) (Cd.pair (Cd.int .i64) (Cd.pair (Cd.int .i64) (Cd.pair (Cd.int .i64) (Cd.pair (Cd.int .i64) (Cd.pair (Cd.int .i64) (Cd.pair (Cd.int .i64) (Cd.pair (Cd.int .i64) (Cd.pair (Cd.int .i64) (Cd.pair (Cd.int .i64) (Cd.pair (Cd.int .i64) (Cd.pair (Cd.int .i64) (Cd.pair (Cd.int .i64) (Cd.pair (Cd.int .i64) (Cd.int .i64))))))))))))))))))))))) l true)]) (S.MetricPlays 100000 ⟨target_, util_, stable_, panic_, grain_, threshold_, up_, down_, min_, max_, initial_, grace_, delay_, burst_, limit_, queue_, timeout_, ready_, subset_, sample_⟩ l len)
  | _, _ => none
theorem H3_ok : HndOk Try.prog 3 H3 := hnd_ok tis tisOk mixOk G28s_ok F3 Try.func3 rfl (by
  intro R args σ k r h
  unfold H3 at h
  split at h
  · rename_i target_ util_ stable_ panic_ grain_ threshold_ up_ down_ min_ max_ initial_ grace_ delay_ burst_ limit_ queue_ timeout_ ready_ subset_ sample_ len l; exact ⟨100000, (S.MetricPlays_v 100000 ⟨target_, util_, stable_, panic_, grain_, threshold_, up_, down_, min_, max_, initial_, grace_, delay_, burst_, limit_, queue_, timeout_, ready_, subset_, sample_⟩ l len _).trans h⟩
  · cases h)
noncomputable def G3 : Env := Env.add 3 H3 G28s
theorem G3_ok : EnvOk Try.prog G3 := envAdd_ok H3_ok G28s_ok
end Go.Proofs.Ytdflpflffccmgaa.AB
