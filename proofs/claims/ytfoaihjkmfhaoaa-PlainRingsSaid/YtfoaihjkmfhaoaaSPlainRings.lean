/- PlainRings, as a plain function. -/
import Derived.Test.YtfoaihjkmfhaoaaSringz
namespace Go.Proofs.Ytfoaihjkmfhaoaa.AB
set_option linter.unusedVariables false

/-! spinnakerlaw6.PlainRings -/
def F6 : FCfg := ⟨keepAt [(0, [0, 1, 2, 3]), (1, [0, 1, 2, 3, 20]), (2, [8]), (3, [0, 2, 3, 9]), (4, [0, 3, 9, 10]), (5, [0, 3, 9, 10, 11]), (6, [0, 3, 9, 10, 11, 38]), (7, [8]), (8, [0, 3, 9, 10, 11, 12]), (9, [0, 3, 9, 10, 11, 12, 42]), (10, [0, 3, 9, 10, 11, 12]), (11, [0, 3, 9, 10, 11, 12]), (12, [0, 3, 9, 10, 11, 12, 13]), (13, [0, 3, 9, 10, 11, 12, 13, 81]), (14, [0, 3, 9, 10, 11, 12, 13]), (15, [0, 3, 9, 10, 11, 12, 13, 14, 15]), (16, [0, 3, 9, 10, 11, 12, 13, 14, 15, 16, 17]), (17, [0, 3, 9, 10, 11, 12, 125]), (18, [8]), (19, [8])], loopAt [(9, [0, 3, 9, 10, 11, 12], [⟨1, true, 11, [], 0, (.pair (.int .i64) (.pair (.int .i64) (.pair (.int .i64) .bool))), some 86⟩])], []⟩
noncomputable def C_PlainRings (fu : Nat) (l : RL) (len : Nat) (w g q : Int) : Cfg := Cfg.of tis F6 fu (List.length ([.rows (.pair (.int .i64) (.int .i64)) l true] : List Blk)) Try.f6.ntmps
noncomputable def S.PlainRings_b0 : Code := codeAt (bodyOf Try.f6) [1, 1, 1, 1, 1, 1, 0, 1, 0, 0]
noncomputable def S.PlainRings_s0 (l : RL) (len : Nat) (w g q : Int) (y0 : Int) (y1 : Nat) (y2 : Nat) (y3 : Int) (y4 : Int) (y5 : Int) (y6 : Int) (y7 : Bool) (y8 : List (Option Nat)) (y9 : List (Int × Int × Int × Bool)) : St := ⟨[(0, (.slice 2 0 (0) (len) none)), (3, (.int .i64 (q))), (9, (.int .i64 (Go.IntKind.wrap .i64 (1 + Go.IntKind.wrap .i64 (Int.tmod (Go.IntKind.wrap .u64 w) 40))))), (10, (.int .i64 (Go.IntKind.wrap .i64 (1 + Go.IntKind.wrap .i64 (Int.tmod (Go.IntKind.wrap .u64 g) (Go.IntKind.wrap .u64 (Go.IntKind.wrap .i64 (1 + Go.IntKind.wrap .i64 (Int.tmod (Go.IntKind.wrap .u64 w) 40))))))))), (11, (.ptr 1 (0) 0)), (12, (.int .i64 (y0)))], [(.rows (Cd.pair (Cd.int .i64) (Cd.int .i64)) l true), (.var [(.slice 1 2 (y1) (y2) none), (.int .i64 (y3)), (.int .i64 (y4)), (.int .i64 (y5)), (.int .i64 (y6)), (.bool (y7))]), (.fam 86 (Cd.pair (Cd.int .i64) (Cd.pair (Cd.int .i64) (Cd.pair (Cd.int .i64) Cd.bool))) (y8) (y9))]⟩
noncomputable def S.PlainRings_x0_0 (l : RL) (len : Nat) (w g q : Int) (z0 : Nat) (z1 : Nat) (z2 : Int) (z3 : Int) (z4 : Int) (z5 : Int) (z6 : Bool) (z7 : List (Option Nat)) (z8 : List (Int × Int × Int × Bool)) : St := ⟨[(8, (.bool (false)))], [(.rows (Cd.pair (Cd.int .i64) (Cd.int .i64)) l true), (.var [(.slice 1 3 (z0) (z1) none), (.int .i64 (z2)), (.int .i64 (z3)), (.int .i64 (z4)), (.int .i64 (z5)), (.bool (z6))]), .dead, (.fam 86 (Cd.pair (Cd.int .i64) (Cd.pair (Cd.int .i64) (Cd.pair (Cd.int .i64) Cd.bool))) (z7) (z8))]⟩
noncomputable def S.PlainRings_x0_1 (l : RL) (len : Nat) (w g q : Int) (z0 : Int) (z1 : Bool) (z2 : Nat) (z3 : Nat) (z4 : Int) (z5 : Int) (z6 : Int) (z7 : Int) (z8 : Bool) (z9 : List (Option Nat)) (z10 : List (Int × Int × Int × Bool)) : St := ⟨[(0, (.slice 2 0 (0) (len) none)), (3, (.int .i64 (q))), (9, (.int .i64 (Go.IntKind.wrap .i64 (1 + Go.IntKind.wrap .i64 (Int.tmod (Go.IntKind.wrap .u64 w) 40))))), (10, (.int .i64 (Go.IntKind.wrap .i64 (1 + Go.IntKind.wrap .i64 (Int.tmod (Go.IntKind.wrap .u64 g) (Go.IntKind.wrap .u64 (Go.IntKind.wrap .i64 (1 + Go.IntKind.wrap .i64 (Int.tmod (Go.IntKind.wrap .u64 w) 40))))))))), (11, (.ptr 1 (0) 0)), (12, (.int .i64 (z0))), (42, (.bool (z1)))], [(.rows (Cd.pair (Cd.int .i64) (Cd.int .i64)) l true), (.var [(.slice 1 2 (z2) (z3) none), (.int .i64 (z4)), (.int .i64 (z5)), (.int .i64 (z6)), (.int .i64 (z7)), (.bool (z8))]), (.fam 86 (Cd.pair (Cd.int .i64) (Cd.pair (Cd.int .i64) (Cd.pair (Cd.int .i64) Cd.bool))) (z9) (z10))]⟩
noncomputable def S.PlainRings_g0 {R : Type} (l : RL) (len : Nat) (w g q : Int) (K : Ex → St → Option R) : ((Nat × Nat × Int × Int × Int × Int × Bool × List (Option Nat) × List (Int × Int × Int × Bool)) ⊕ (Int × Bool × Nat × Nat × Int × Int × Int × Int × Bool × List (Option Nat) × List (Int × Int × Int × Bool))) → Option R := (Sum.elim (fun z : Nat × Nat × Int × Int × Int × Int × Bool × List (Option Nat) × List (Int × Int × Int × Bool) => K (Ex.ret) (S.PlainRings_x0_0 l len w g q (z.1) (z.2.1) (z.2.2.1) (z.2.2.2.1) (z.2.2.2.2.1) (z.2.2.2.2.2.1) (z.2.2.2.2.2.2.1) (z.2.2.2.2.2.2.2.1) (z.2.2.2.2.2.2.2.2))) (fun z : Int × Bool × Nat × Nat × Int × Int × Int × Int × Bool × List (Option Nat) × List (Int × Int × Int × Bool) => K (Ex.exit 0) (S.PlainRings_x0_1 l len w g q (z.1) (z.2.1) (z.2.2.1) (z.2.2.2.1) (z.2.2.2.2.1) (z.2.2.2.2.2.1) (z.2.2.2.2.2.2.1) (z.2.2.2.2.2.2.2.1) (z.2.2.2.2.2.2.2.2.1) (z.2.2.2.2.2.2.2.2.2.1) (z.2.2.2.2.2.2.2.2.2.2))))
noncomputable def S.PlainRings_gk {R : Type} (l : RL) (len : Nat) (w g q : Int) (k : AVal → List Blk → Option R) : (Bool) → Option R := (fun v : Bool => k (.bool v) [(.rows (Cd.pair (Cd.int .i64) (Cd.int .i64)) l true)])
theorem S.PlainRings_l0_k {R : Type} (fu : Nat) (l : RL) (len : Nat) (w g q : Int) (n : Nat) (K : Ex → St → Option R) (y0 : Int) (y1 : Nat) (y2 : Nat) (y3 : Int) (y4 : Int) (y5 : Int) (y6 : Int) (y7 : Bool) (y8 : List (Option Nat)) (y9 : List (Int × Int × Int × Bool)) : loopRun (C_PlainRings fu l len w g q) G18s S.PlainRings_b0 (n + 1) (S.PlainRings_s0 l len w g q (y0) (y1) (y2) (y3) (y4) (y5) (y6) (y7) (y8) (y9)) K =
  (bif decide (y0 < ((len : Nat) : Int)) then
    bif inB y0 len then
      (optK (l[Int.toNat y0 + 0]?) fun o4 =>
        bif inB y0 len then
          (optK (l[Int.toNat y0 + 0]?) fun o6 =>
            (optK (S.q_rp y8 y9 y1 y2 y3 y4 y5 y6 y7 o4.1 o6.2) fun o7 =>
              bif inB y0 len then
                (optK (l[Int.toNat y0 + 0]?) fun o9 =>
                  bif inB y0 len then
                    (optK (l[Int.toNat y0 + 0]?) fun o11 =>
                      bif decide (1099511627776 < o11.1) then
                        bif inB y0 len then
                          (optK (l[Int.toNat y0 + 0]?) fun o14 =>
                            (optK (S.q_rs 100000 o7.2.2.2.2.2.2.2.2.1 o7.2.2.2.2.2.2.2.2.2 o7.2.1 o7.2.2.1 o7.2.2.2.1 o7.2.2.2.2.1 o7.2.2.2.2.2.1 o7.2.2.2.2.2.2.1 o7.2.2.2.2.2.2.2.1 o14.1) fun o15 =>
                              bif decide (0 ≤ Go.IntKind.wrap .i64 (y0 + 1) ∧ Go.IntKind.wrap .i64 (y0 + 1) ≤ ((len : Nat) : Int)) then
                                (optK (S.q_psum 100000 l 0 (Int.toNat (Go.IntKind.wrap .i64 (y0 + 1))) true (Go.IntKind.wrap .i64 (1 + Go.IntKind.wrap .i64 (Int.tmod (Go.IntKind.wrap .u64 w) 40))) (Go.IntKind.wrap .i64 (1 + Go.IntKind.wrap .i64 (Int.tmod (Go.IntKind.wrap .u64 g) (Go.IntKind.wrap .u64 (Go.IntKind.wrap .i64 (1 + Go.IntKind.wrap .i64 (Int.tmod (Go.IntKind.wrap .u64 w) 40))))))) o14.1) fun o17 =>
                                  bif !decide (o15.1 = o17.1) then
                                    K (Ex.ret) (S.PlainRings_x0_0 l len w g q (o15.2.2.1) (o15.2.2.2.1) (o15.2.2.2.2.1) (o15.2.2.2.2.2.1) (o15.2.2.2.2.2.2.1) (o15.2.2.2.2.2.2.2.1) (o15.2.2.2.2.2.2.2.2.1) (o15.2.2.2.2.2.2.2.2.2.1) (o15.2.2.2.2.2.2.2.2.2.2))
                                  else
                                    bif !decide (o15.2.1 = o17.2) then
                                      K (Ex.ret) (S.PlainRings_x0_0 l len w g q (o15.2.2.1) (o15.2.2.2.1) (o15.2.2.2.2.1) (o15.2.2.2.2.2.1) (o15.2.2.2.2.2.2.1) (o15.2.2.2.2.2.2.2.1) (o15.2.2.2.2.2.2.2.2.1) (o15.2.2.2.2.2.2.2.2.2.1) (o15.2.2.2.2.2.2.2.2.2.2))
                                    else
                                      (optK (S.q_rm o15.2.2.2.2.2.2.2.2.2.1 o15.2.2.2.2.2.2.2.2.2.2 o15.2.2.1 o15.2.2.2.1 o15.2.2.2.2.1 o15.2.2.2.2.2.1 o15.2.2.2.2.2.2.1 o15.2.2.2.2.2.2.2.1 o15.2.2.2.2.2.2.2.2.1 o14.1) fun o20 =>
                                        bif decide (0 ≤ Go.IntKind.wrap .i64 (y0 + 1) ∧ Go.IntKind.wrap .i64 (y0 + 1) ≤ ((len : Nat) : Int)) then
                                          (optK (S.q_pmean l 0 (Int.toNat (Go.IntKind.wrap .i64 (y0 + 1))) true (Go.IntKind.wrap .i64 (1 + Go.IntKind.wrap .i64 (Int.tmod (Go.IntKind.wrap .u64 w) 40))) (Go.IntKind.wrap .i64 (1 + Go.IntKind.wrap .i64 (Int.tmod (Go.IntKind.wrap .u64 g) (Go.IntKind.wrap .u64 (Go.IntKind.wrap .i64 (1 + Go.IntKind.wrap .i64 (Int.tmod (Go.IntKind.wrap .u64 w) 40))))))) o14.1) fun o22 =>
                                            bif !decide (o20.1 = o22) then
                                              K (Ex.ret) (S.PlainRings_x0_0 l len w g q (o20.2.1) (o20.2.2.1) (o20.2.2.2.1) (o20.2.2.2.2.1) (o20.2.2.2.2.2.1) (o20.2.2.2.2.2.2.1) (o20.2.2.2.2.2.2.2.1) (o20.2.2.2.2.2.2.2.2.1) (o20.2.2.2.2.2.2.2.2.2))
                                            else
                                              loopRun (C_PlainRings fu l len w g q) G18s S.PlainRings_b0 n (S.PlainRings_s0 l len w g q (Go.IntKind.wrap .i64 (y0 + 1)) (o20.2.1) (o20.2.2.1) (o20.2.2.2.1) (o20.2.2.2.2.1) (o20.2.2.2.2.2.1) (o20.2.2.2.2.2.2.1) (o20.2.2.2.2.2.2.2.1) (o20.2.2.2.2.2.2.2.2.1) (o20.2.2.2.2.2.2.2.2.2)) K)
                                        else
                                          none))
                              else
                                none))
                        else
                          none
                      else
                        bif inB y0 len then
                          (optK (l[Int.toNat y0 + 0]?) fun o14 =>
                            bif decide (o14.1 < -1099511627776) then
                              bif inB y0 len then
                                (optK (l[Int.toNat y0 + 0]?) fun o17 =>
                                  (optK (S.q_rs 100000 o7.2.2.2.2.2.2.2.2.1 o7.2.2.2.2.2.2.2.2.2 o7.2.1 o7.2.2.1 o7.2.2.2.1 o7.2.2.2.2.1 o7.2.2.2.2.2.1 o7.2.2.2.2.2.2.1 o7.2.2.2.2.2.2.2.1 o17.1) fun o18 =>
                                    bif decide (0 ≤ Go.IntKind.wrap .i64 (y0 + 1) ∧ Go.IntKind.wrap .i64 (y0 + 1) ≤ ((len : Nat) : Int)) then
                                      (optK (S.q_psum 100000 l 0 (Int.toNat (Go.IntKind.wrap .i64 (y0 + 1))) true (Go.IntKind.wrap .i64 (1 + Go.IntKind.wrap .i64 (Int.tmod (Go.IntKind.wrap .u64 w) 40))) (Go.IntKind.wrap .i64 (1 + Go.IntKind.wrap .i64 (Int.tmod (Go.IntKind.wrap .u64 g) (Go.IntKind.wrap .u64 (Go.IntKind.wrap .i64 (1 + Go.IntKind.wrap .i64 (Int.tmod (Go.IntKind.wrap .u64 w) 40))))))) o17.1) fun o20 =>
                                        bif !decide (o18.1 = o20.1) then
                                          K (Ex.ret) (S.PlainRings_x0_0 l len w g q (o18.2.2.1) (o18.2.2.2.1) (o18.2.2.2.2.1) (o18.2.2.2.2.2.1) (o18.2.2.2.2.2.2.1) (o18.2.2.2.2.2.2.2.1) (o18.2.2.2.2.2.2.2.2.1) (o18.2.2.2.2.2.2.2.2.2.1) (o18.2.2.2.2.2.2.2.2.2.2))
                                        else
                                          bif !decide (o18.2.1 = o20.2) then
                                            K (Ex.ret) (S.PlainRings_x0_0 l len w g q (o18.2.2.1) (o18.2.2.2.1) (o18.2.2.2.2.1) (o18.2.2.2.2.2.1) (o18.2.2.2.2.2.2.1) (o18.2.2.2.2.2.2.2.1) (o18.2.2.2.2.2.2.2.2.1) (o18.2.2.2.2.2.2.2.2.2.1) (o18.2.2.2.2.2.2.2.2.2.2))
                                          else
                                            (optK (S.q_rm o18.2.2.2.2.2.2.2.2.2.1 o18.2.2.2.2.2.2.2.2.2.2 o18.2.2.1 o18.2.2.2.1 o18.2.2.2.2.1 o18.2.2.2.2.2.1 o18.2.2.2.2.2.2.1 o18.2.2.2.2.2.2.2.1 o18.2.2.2.2.2.2.2.2.1 o17.1) fun o23 =>
                                              bif decide (0 ≤ Go.IntKind.wrap .i64 (y0 + 1) ∧ Go.IntKind.wrap .i64 (y0 + 1) ≤ ((len : Nat) : Int)) then
                                                (optK (S.q_pmean l 0 (Int.toNat (Go.IntKind.wrap .i64 (y0 + 1))) true (Go.IntKind.wrap .i64 (1 + Go.IntKind.wrap .i64 (Int.tmod (Go.IntKind.wrap .u64 w) 40))) (Go.IntKind.wrap .i64 (1 + Go.IntKind.wrap .i64 (Int.tmod (Go.IntKind.wrap .u64 g) (Go.IntKind.wrap .u64 (Go.IntKind.wrap .i64 (1 + Go.IntKind.wrap .i64 (Int.tmod (Go.IntKind.wrap .u64 w) 40))))))) o17.1) fun o25 =>
                                                  bif !decide (o23.1 = o25) then
                                                    K (Ex.ret) (S.PlainRings_x0_0 l len w g q (o23.2.1) (o23.2.2.1) (o23.2.2.2.1) (o23.2.2.2.2.1) (o23.2.2.2.2.2.1) (o23.2.2.2.2.2.2.1) (o23.2.2.2.2.2.2.2.1) (o23.2.2.2.2.2.2.2.2.1) (o23.2.2.2.2.2.2.2.2.2))
                                                  else
                                                    loopRun (C_PlainRings fu l len w g q) G18s S.PlainRings_b0 n (S.PlainRings_s0 l len w g q (Go.IntKind.wrap .i64 (y0 + 1)) (o23.2.1) (o23.2.2.1) (o23.2.2.2.1) (o23.2.2.2.2.1) (o23.2.2.2.2.2.1) (o23.2.2.2.2.2.2.1) (o23.2.2.2.2.2.2.2.1) (o23.2.2.2.2.2.2.2.2.1) (o23.2.2.2.2.2.2.2.2.2)) K)
                                              else
                                                none))
                                    else
                                      none))
                              else
                                none
                            else
                              (optK (S.q_rs 100000 o7.2.2.2.2.2.2.2.2.1 o7.2.2.2.2.2.2.2.2.2 o7.2.1 o7.2.2.1 o7.2.2.2.1 o7.2.2.2.2.1 o7.2.2.2.2.2.1 o7.2.2.2.2.2.2.1 o7.2.2.2.2.2.2.2.1 (Go.IntKind.wrap .i64 (Go.IntKind.wrap .i64 (o9.1 + Go.IntKind.wrap .i64 (Int.tmod (Go.IntKind.wrap .u64 q) 7)) - 3))) fun o16 =>
                                bif decide (0 ≤ Go.IntKind.wrap .i64 (y0 + 1) ∧ Go.IntKind.wrap .i64 (y0 + 1) ≤ ((len : Nat) : Int)) then
                                  (optK (S.q_psum 100000 l 0 (Int.toNat (Go.IntKind.wrap .i64 (y0 + 1))) true (Go.IntKind.wrap .i64 (1 + Go.IntKind.wrap .i64 (Int.tmod (Go.IntKind.wrap .u64 w) 40))) (Go.IntKind.wrap .i64 (1 + Go.IntKind.wrap .i64 (Int.tmod (Go.IntKind.wrap .u64 g) (Go.IntKind.wrap .u64 (Go.IntKind.wrap .i64 (1 + Go.IntKind.wrap .i64 (Int.tmod (Go.IntKind.wrap .u64 w) 40))))))) (Go.IntKind.wrap .i64 (Go.IntKind.wrap .i64 (o9.1 + Go.IntKind.wrap .i64 (Int.tmod (Go.IntKind.wrap .u64 q) 7)) - 3))) fun o18 =>
                                    bif !decide (o16.1 = o18.1) then
                                      K (Ex.ret) (S.PlainRings_x0_0 l len w g q (o16.2.2.1) (o16.2.2.2.1) (o16.2.2.2.2.1) (o16.2.2.2.2.2.1) (o16.2.2.2.2.2.2.1) (o16.2.2.2.2.2.2.2.1) (o16.2.2.2.2.2.2.2.2.1) (o16.2.2.2.2.2.2.2.2.2.1) (o16.2.2.2.2.2.2.2.2.2.2))
                                    else
                                      bif !decide (o16.2.1 = o18.2) then
                                        K (Ex.ret) (S.PlainRings_x0_0 l len w g q (o16.2.2.1) (o16.2.2.2.1) (o16.2.2.2.2.1) (o16.2.2.2.2.2.1) (o16.2.2.2.2.2.2.1) (o16.2.2.2.2.2.2.2.1) (o16.2.2.2.2.2.2.2.2.1) (o16.2.2.2.2.2.2.2.2.2.1) (o16.2.2.2.2.2.2.2.2.2.2))
                                      else
                                        (optK (S.q_rm o16.2.2.2.2.2.2.2.2.2.1 o16.2.2.2.2.2.2.2.2.2.2 o16.2.2.1 o16.2.2.2.1 o16.2.2.2.2.1 o16.2.2.2.2.2.1 o16.2.2.2.2.2.2.1 o16.2.2.2.2.2.2.2.1 o16.2.2.2.2.2.2.2.2.1 (Go.IntKind.wrap .i64 (Go.IntKind.wrap .i64 (o9.1 + Go.IntKind.wrap .i64 (Int.tmod (Go.IntKind.wrap .u64 q) 7)) - 3))) fun o21 =>
                                          bif decide (0 ≤ Go.IntKind.wrap .i64 (y0 + 1) ∧ Go.IntKind.wrap .i64 (y0 + 1) ≤ ((len : Nat) : Int)) then
                                            (optK (S.q_pmean l 0 (Int.toNat (Go.IntKind.wrap .i64 (y0 + 1))) true (Go.IntKind.wrap .i64 (1 + Go.IntKind.wrap .i64 (Int.tmod (Go.IntKind.wrap .u64 w) 40))) (Go.IntKind.wrap .i64 (1 + Go.IntKind.wrap .i64 (Int.tmod (Go.IntKind.wrap .u64 g) (Go.IntKind.wrap .u64 (Go.IntKind.wrap .i64 (1 + Go.IntKind.wrap .i64 (Int.tmod (Go.IntKind.wrap .u64 w) 40))))))) (Go.IntKind.wrap .i64 (Go.IntKind.wrap .i64 (o9.1 + Go.IntKind.wrap .i64 (Int.tmod (Go.IntKind.wrap .u64 q) 7)) - 3))) fun o23 =>
                                              bif !decide (o21.1 = o23) then
                                                K (Ex.ret) (S.PlainRings_x0_0 l len w g q (o21.2.1) (o21.2.2.1) (o21.2.2.2.1) (o21.2.2.2.2.1) (o21.2.2.2.2.2.1) (o21.2.2.2.2.2.2.1) (o21.2.2.2.2.2.2.2.1) (o21.2.2.2.2.2.2.2.2.1) (o21.2.2.2.2.2.2.2.2.2))
                                              else
                                                loopRun (C_PlainRings fu l len w g q) G18s S.PlainRings_b0 n (S.PlainRings_s0 l len w g q (Go.IntKind.wrap .i64 (y0 + 1)) (o21.2.1) (o21.2.2.1) (o21.2.2.2.1) (o21.2.2.2.2.1) (o21.2.2.2.2.2.1) (o21.2.2.2.2.2.2.1) (o21.2.2.2.2.2.2.2.1) (o21.2.2.2.2.2.2.2.2.1) (o21.2.2.2.2.2.2.2.2.2)) K)
                                          else
                                            none))
                                else
                                  none))
                        else
                          none)
                  else
                    none)
              else
                none))
        else
          none)
    else
      none
  else
    K (Ex.exit 0) (S.PlainRings_x0_1 l len w g q (y0) (decide (y0 < ((len : Nat) : Int))) (y1) (y2) (y3) (y4) (y5) (y6) (y7) (y8) (y9))) := by kernel_rfl
noncomputable def S.PlainRings_l0 (fu : Nat) (l : RL) (len : Nat) (w g q : Int) : Nat → (Int) → (Nat) → (Nat) → (Int) → (Int) → (Int) → (Int) → (Bool) → (List (Option Nat)) → (List (Int × Int × Int × Bool)) → Option ((Nat × Nat × Int × Int × Int × Int × Bool × List (Option Nat) × List (Int × Int × Int × Bool)) ⊕ (Int × Bool × Nat × Nat × Int × Int × Int × Int × Bool × List (Option Nat) × List (Int × Int × Int × Bool)))
  | 0, _, _, _, _, _, _, _, _, _, _ => none
  | n + 1, y0, y1, y2, y3, y4, y5, y6, y7, y8, y9 =>
    bif decide (y0 < ((len : Nat) : Int)) then
      bif inB y0 len then
        (optK (l[Int.toNat y0 + 0]?) fun o4 =>
          bif inB y0 len then
            (optK (l[Int.toNat y0 + 0]?) fun o6 =>
              (optK (S.q_rp y8 y9 y1 y2 y3 y4 y5 y6 y7 o4.1 o6.2) fun o7 =>
                bif inB y0 len then
                  (optK (l[Int.toNat y0 + 0]?) fun o9 =>
                    bif inB y0 len then
                      (optK (l[Int.toNat y0 + 0]?) fun o11 =>
                        bif decide (1099511627776 < o11.1) then
                          bif inB y0 len then
                            (optK (l[Int.toNat y0 + 0]?) fun o14 =>
                              (optK (S.q_rs 100000 o7.2.2.2.2.2.2.2.2.1 o7.2.2.2.2.2.2.2.2.2 o7.2.1 o7.2.2.1 o7.2.2.2.1 o7.2.2.2.2.1 o7.2.2.2.2.2.1 o7.2.2.2.2.2.2.1 o7.2.2.2.2.2.2.2.1 o14.1) fun o15 =>
                                bif decide (0 ≤ Go.IntKind.wrap .i64 (y0 + 1) ∧ Go.IntKind.wrap .i64 (y0 + 1) ≤ ((len : Nat) : Int)) then
                                  (optK (S.q_psum 100000 l 0 (Int.toNat (Go.IntKind.wrap .i64 (y0 + 1))) true (Go.IntKind.wrap .i64 (1 + Go.IntKind.wrap .i64 (Int.tmod (Go.IntKind.wrap .u64 w) 40))) (Go.IntKind.wrap .i64 (1 + Go.IntKind.wrap .i64 (Int.tmod (Go.IntKind.wrap .u64 g) (Go.IntKind.wrap .u64 (Go.IntKind.wrap .i64 (1 + Go.IntKind.wrap .i64 (Int.tmod (Go.IntKind.wrap .u64 w) 40))))))) o14.1) fun o17 =>
                                    bif !decide (o15.1 = o17.1) then
                                      some (.inl (o15.2.2.1, o15.2.2.2.1, o15.2.2.2.2.1, o15.2.2.2.2.2.1, o15.2.2.2.2.2.2.1, o15.2.2.2.2.2.2.2.1, o15.2.2.2.2.2.2.2.2.1, o15.2.2.2.2.2.2.2.2.2.1, o15.2.2.2.2.2.2.2.2.2.2))
                                    else
                                      bif !decide (o15.2.1 = o17.2) then
                                        some (.inl (o15.2.2.1, o15.2.2.2.1, o15.2.2.2.2.1, o15.2.2.2.2.2.1, o15.2.2.2.2.2.2.1, o15.2.2.2.2.2.2.2.1, o15.2.2.2.2.2.2.2.2.1, o15.2.2.2.2.2.2.2.2.2.1, o15.2.2.2.2.2.2.2.2.2.2))
                                      else
                                        (optK (S.q_rm o15.2.2.2.2.2.2.2.2.2.1 o15.2.2.2.2.2.2.2.2.2.2 o15.2.2.1 o15.2.2.2.1 o15.2.2.2.2.1 o15.2.2.2.2.2.1 o15.2.2.2.2.2.2.1 o15.2.2.2.2.2.2.2.1 o15.2.2.2.2.2.2.2.2.1 o14.1) fun o20 =>
                                          bif decide (0 ≤ Go.IntKind.wrap .i64 (y0 + 1) ∧ Go.IntKind.wrap .i64 (y0 + 1) ≤ ((len : Nat) : Int)) then
                                            (optK (S.q_pmean l 0 (Int.toNat (Go.IntKind.wrap .i64 (y0 + 1))) true (Go.IntKind.wrap .i64 (1 + Go.IntKind.wrap .i64 (Int.tmod (Go.IntKind.wrap .u64 w) 40))) (Go.IntKind.wrap .i64 (1 + Go.IntKind.wrap .i64 (Int.tmod (Go.IntKind.wrap .u64 g) (Go.IntKind.wrap .u64 (Go.IntKind.wrap .i64 (1 + Go.IntKind.wrap .i64 (Int.tmod (Go.IntKind.wrap .u64 w) 40))))))) o14.1) fun o22 =>
                                              bif !decide (o20.1 = o22) then
                                                some (.inl (o20.2.1, o20.2.2.1, o20.2.2.2.1, o20.2.2.2.2.1, o20.2.2.2.2.2.1, o20.2.2.2.2.2.2.1, o20.2.2.2.2.2.2.2.1, o20.2.2.2.2.2.2.2.2.1, o20.2.2.2.2.2.2.2.2.2))
                                              else
                                                (S.PlainRings_l0 fu l len w g q n) (Go.IntKind.wrap .i64 (y0 + 1)) (o20.2.1) (o20.2.2.1) (o20.2.2.2.1) (o20.2.2.2.2.1) (o20.2.2.2.2.2.1) (o20.2.2.2.2.2.2.1) (o20.2.2.2.2.2.2.2.1) (o20.2.2.2.2.2.2.2.2.1) (o20.2.2.2.2.2.2.2.2.2))
                                          else
                                            none))
                                else
                                  none))
                          else
                            none
                        else
                          bif inB y0 len then
                            (optK (l[Int.toNat y0 + 0]?) fun o14 =>
                              bif decide (o14.1 < -1099511627776) then
                                bif inB y0 len then
                                  (optK (l[Int.toNat y0 + 0]?) fun o17 =>
                                    (optK (S.q_rs 100000 o7.2.2.2.2.2.2.2.2.1 o7.2.2.2.2.2.2.2.2.2 o7.2.1 o7.2.2.1 o7.2.2.2.1 o7.2.2.2.2.1 o7.2.2.2.2.2.1 o7.2.2.2.2.2.2.1 o7.2.2.2.2.2.2.2.1 o17.1) fun o18 =>
                                      bif decide (0 ≤ Go.IntKind.wrap .i64 (y0 + 1) ∧ Go.IntKind.wrap .i64 (y0 + 1) ≤ ((len : Nat) : Int)) then
                                        (optK (S.q_psum 100000 l 0 (Int.toNat (Go.IntKind.wrap .i64 (y0 + 1))) true (Go.IntKind.wrap .i64 (1 + Go.IntKind.wrap .i64 (Int.tmod (Go.IntKind.wrap .u64 w) 40))) (Go.IntKind.wrap .i64 (1 + Go.IntKind.wrap .i64 (Int.tmod (Go.IntKind.wrap .u64 g) (Go.IntKind.wrap .u64 (Go.IntKind.wrap .i64 (1 + Go.IntKind.wrap .i64 (Int.tmod (Go.IntKind.wrap .u64 w) 40))))))) o17.1) fun o20 =>
                                          bif !decide (o18.1 = o20.1) then
                                            some (.inl (o18.2.2.1, o18.2.2.2.1, o18.2.2.2.2.1, o18.2.2.2.2.2.1, o18.2.2.2.2.2.2.1, o18.2.2.2.2.2.2.2.1, o18.2.2.2.2.2.2.2.2.1, o18.2.2.2.2.2.2.2.2.2.1, o18.2.2.2.2.2.2.2.2.2.2))
                                          else
                                            bif !decide (o18.2.1 = o20.2) then
                                              some (.inl (o18.2.2.1, o18.2.2.2.1, o18.2.2.2.2.1, o18.2.2.2.2.2.1, o18.2.2.2.2.2.2.1, o18.2.2.2.2.2.2.2.1, o18.2.2.2.2.2.2.2.2.1, o18.2.2.2.2.2.2.2.2.2.1, o18.2.2.2.2.2.2.2.2.2.2))
                                            else
                                              (optK (S.q_rm o18.2.2.2.2.2.2.2.2.2.1 o18.2.2.2.2.2.2.2.2.2.2 o18.2.2.1 o18.2.2.2.1 o18.2.2.2.2.1 o18.2.2.2.2.2.1 o18.2.2.2.2.2.2.1 o18.2.2.2.2.2.2.2.1 o18.2.2.2.2.2.2.2.2.1 o17.1) fun o23 =>
                                                bif decide (0 ≤ Go.IntKind.wrap .i64 (y0 + 1) ∧ Go.IntKind.wrap .i64 (y0 + 1) ≤ ((len : Nat) : Int)) then
                                                  (optK (S.q_pmean l 0 (Int.toNat (Go.IntKind.wrap .i64 (y0 + 1))) true (Go.IntKind.wrap .i64 (1 + Go.IntKind.wrap .i64 (Int.tmod (Go.IntKind.wrap .u64 w) 40))) (Go.IntKind.wrap .i64 (1 + Go.IntKind.wrap .i64 (Int.tmod (Go.IntKind.wrap .u64 g) (Go.IntKind.wrap .u64 (Go.IntKind.wrap .i64 (1 + Go.IntKind.wrap .i64 (Int.tmod (Go.IntKind.wrap .u64 w) 40))))))) o17.1) fun o25 =>
                                                    bif !decide (o23.1 = o25) then
                                                      some (.inl (o23.2.1, o23.2.2.1, o23.2.2.2.1, o23.2.2.2.2.1, o23.2.2.2.2.2.1, o23.2.2.2.2.2.2.1, o23.2.2.2.2.2.2.2.1, o23.2.2.2.2.2.2.2.2.1, o23.2.2.2.2.2.2.2.2.2))
                                                    else
                                                      (S.PlainRings_l0 fu l len w g q n) (Go.IntKind.wrap .i64 (y0 + 1)) (o23.2.1) (o23.2.2.1) (o23.2.2.2.1) (o23.2.2.2.2.1) (o23.2.2.2.2.2.1) (o23.2.2.2.2.2.2.1) (o23.2.2.2.2.2.2.2.1) (o23.2.2.2.2.2.2.2.2.1) (o23.2.2.2.2.2.2.2.2.2))
                                                else
                                                  none))
                                      else
                                        none))
                                else
                                  none
                              else
                                (optK (S.q_rs 100000 o7.2.2.2.2.2.2.2.2.1 o7.2.2.2.2.2.2.2.2.2 o7.2.1 o7.2.2.1 o7.2.2.2.1 o7.2.2.2.2.1 o7.2.2.2.2.2.1 o7.2.2.2.2.2.2.1 o7.2.2.2.2.2.2.2.1 (Go.IntKind.wrap .i64 (Go.IntKind.wrap .i64 (o9.1 + Go.IntKind.wrap .i64 (Int.tmod (Go.IntKind.wrap .u64 q) 7)) - 3))) fun o16 =>
                                  bif decide (0 ≤ Go.IntKind.wrap .i64 (y0 + 1) ∧ Go.IntKind.wrap .i64 (y0 + 1) ≤ ((len : Nat) : Int)) then
                                    (optK (S.q_psum 100000 l 0 (Int.toNat (Go.IntKind.wrap .i64 (y0 + 1))) true (Go.IntKind.wrap .i64 (1 + Go.IntKind.wrap .i64 (Int.tmod (Go.IntKind.wrap .u64 w) 40))) (Go.IntKind.wrap .i64 (1 + Go.IntKind.wrap .i64 (Int.tmod (Go.IntKind.wrap .u64 g) (Go.IntKind.wrap .u64 (Go.IntKind.wrap .i64 (1 + Go.IntKind.wrap .i64 (Int.tmod (Go.IntKind.wrap .u64 w) 40))))))) (Go.IntKind.wrap .i64 (Go.IntKind.wrap .i64 (o9.1 + Go.IntKind.wrap .i64 (Int.tmod (Go.IntKind.wrap .u64 q) 7)) - 3))) fun o18 =>
                                      bif !decide (o16.1 = o18.1) then
                                        some (.inl (o16.2.2.1, o16.2.2.2.1, o16.2.2.2.2.1, o16.2.2.2.2.2.1, o16.2.2.2.2.2.2.1, o16.2.2.2.2.2.2.2.1, o16.2.2.2.2.2.2.2.2.1, o16.2.2.2.2.2.2.2.2.2.1, o16.2.2.2.2.2.2.2.2.2.2))
                                      else
                                        bif !decide (o16.2.1 = o18.2) then
                                          some (.inl (o16.2.2.1, o16.2.2.2.1, o16.2.2.2.2.1, o16.2.2.2.2.2.1, o16.2.2.2.2.2.2.1, o16.2.2.2.2.2.2.2.1, o16.2.2.2.2.2.2.2.2.1, o16.2.2.2.2.2.2.2.2.2.1, o16.2.2.2.2.2.2.2.2.2.2))
                                        else
                                          (optK (S.q_rm o16.2.2.2.2.2.2.2.2.2.1 o16.2.2.2.2.2.2.2.2.2.2 o16.2.2.1 o16.2.2.2.1 o16.2.2.2.2.1 o16.2.2.2.2.2.1 o16.2.2.2.2.2.2.1 o16.2.2.2.2.2.2.2.1 o16.2.2.2.2.2.2.2.2.1 (Go.IntKind.wrap .i64 (Go.IntKind.wrap .i64 (o9.1 + Go.IntKind.wrap .i64 (Int.tmod (Go.IntKind.wrap .u64 q) 7)) - 3))) fun o21 =>
                                            bif decide (0 ≤ Go.IntKind.wrap .i64 (y0 + 1) ∧ Go.IntKind.wrap .i64 (y0 + 1) ≤ ((len : Nat) : Int)) then
                                              (optK (S.q_pmean l 0 (Int.toNat (Go.IntKind.wrap .i64 (y0 + 1))) true (Go.IntKind.wrap .i64 (1 + Go.IntKind.wrap .i64 (Int.tmod (Go.IntKind.wrap .u64 w) 40))) (Go.IntKind.wrap .i64 (1 + Go.IntKind.wrap .i64 (Int.tmod (Go.IntKind.wrap .u64 g) (Go.IntKind.wrap .u64 (Go.IntKind.wrap .i64 (1 + Go.IntKind.wrap .i64 (Int.tmod (Go.IntKind.wrap .u64 w) 40))))))) (Go.IntKind.wrap .i64 (Go.IntKind.wrap .i64 (o9.1 + Go.IntKind.wrap .i64 (Int.tmod (Go.IntKind.wrap .u64 q) 7)) - 3))) fun o23 =>
                                                bif !decide (o21.1 = o23) then
                                                  some (.inl (o21.2.1, o21.2.2.1, o21.2.2.2.1, o21.2.2.2.2.1, o21.2.2.2.2.2.1, o21.2.2.2.2.2.2.1, o21.2.2.2.2.2.2.2.1, o21.2.2.2.2.2.2.2.2.1, o21.2.2.2.2.2.2.2.2.2))
                                                else
                                                  (S.PlainRings_l0 fu l len w g q n) (Go.IntKind.wrap .i64 (y0 + 1)) (o21.2.1) (o21.2.2.1) (o21.2.2.2.1) (o21.2.2.2.2.1) (o21.2.2.2.2.2.1) (o21.2.2.2.2.2.2.1) (o21.2.2.2.2.2.2.2.1) (o21.2.2.2.2.2.2.2.2.1) (o21.2.2.2.2.2.2.2.2.2))
                                            else
                                              none))
                                  else
                                    none))
                          else
                            none)
                    else
                      none)
                else
                  none))
          else
            none)
      else
        none
    else
      some (.inr (y0, decide (y0 < ((len : Nat) : Int)), y1, y2, y3, y4, y5, y6, y7, y8, y9))
theorem S.PlainRings_l0_v {R : Type} (fu : Nat) (l : RL) (len : Nat) (w g q : Int) (K : Ex → St → Option R) : ∀ (n : Nat) (y0 : Int) (y1 : Nat) (y2 : Nat) (y3 : Int) (y4 : Int) (y5 : Int) (y6 : Int) (y7 : Bool) (y8 : List (Option Nat)) (y9 : List (Int × Int × Int × Bool)), loopRun (C_PlainRings fu l len w g q) G18s S.PlainRings_b0 n (S.PlainRings_s0 l len w g q (y0) (y1) (y2) (y3) (y4) (y5) (y6) (y7) (y8) (y9)) K = oK (β := (Nat × Nat × Int × Int × Int × Int × Bool × List (Option Nat) × List (Int × Int × Int × Bool)) ⊕ (Int × Bool × Nat × Nat × Int × Int × Int × Int × Bool × List (Option Nat) × List (Int × Int × Int × Bool))) (S.PlainRings_g0 l len w g q K) (S.PlainRings_l0 fu l len w g q n y0 y1 y2 y3 y4 y5 y6 y7 y8 y9)
  | 0, _, _, _, _, _, _, _, _, _, _ => rfl
  | n + 1, y0, y1, y2, y3, y4, y5, y6, y7, y8, y9 => (S.PlainRings_l0_k fu l len w g q n K y0 y1 y2 y3 y4 y5 y6 y7 y8 y9).trans (bif_lift (f := (oK (β := (Nat × Nat × Int × Int × Int × Int × Bool × List (Option Nat) × List (Int × Int × Int × Bool)) ⊕ (Int × Bool × Nat × Nat × Int × Int × Int × Int × Bool × List (Option Nat) × List (Int × Int × Int × Bool))) (S.PlainRings_g0 l len w g q K))) (bif_lift (f := (oK (β := (Nat × Nat × Int × Int × Int × Int × Bool × List (Option Nat) × List (Int × Int × Int × Bool)) ⊕ (Int × Bool × Nat × Nat × Int × Int × Int × Int × Bool × List (Option Nat) × List (Int × Int × Int × Bool))) (S.PlainRings_g0 l len w g q K))) (opt_lift fun o4 => (bif_lift (f := (oK (β := (Nat × Nat × Int × Int × Int × Int × Bool × List (Option Nat) × List (Int × Int × Int × Bool)) ⊕ (Int × Bool × Nat × Nat × Int × Int × Int × Int × Bool × List (Option Nat) × List (Int × Int × Int × Bool))) (S.PlainRings_g0 l len w g q K))) (opt_lift fun o6 => (opt_lift fun o7 => (bif_lift (f := (oK (β := (Nat × Nat × Int × Int × Int × Int × Bool × List (Option Nat) × List (Int × Int × Int × Bool)) ⊕ (Int × Bool × Nat × Nat × Int × Int × Int × Int × Bool × List (Option Nat) × List (Int × Int × Int × Bool))) (S.PlainRings_g0 l len w g q K))) (opt_lift fun o9 => (bif_lift (f := (oK (β := (Nat × Nat × Int × Int × Int × Int × Bool × List (Option Nat) × List (Int × Int × Int × Bool)) ⊕ (Int × Bool × Nat × Nat × Int × Int × Int × Int × Bool × List (Option Nat) × List (Int × Int × Int × Bool))) (S.PlainRings_g0 l len w g q K))) (opt_lift fun o11 => (bif_lift (f := (oK (β := (Nat × Nat × Int × Int × Int × Int × Bool × List (Option Nat) × List (Int × Int × Int × Bool)) ⊕ (Int × Bool × Nat × Nat × Int × Int × Int × Int × Bool × List (Option Nat) × List (Int × Int × Int × Bool))) (S.PlainRings_g0 l len w g q K))) (bif_lift (f := (oK (β := (Nat × Nat × Int × Int × Int × Int × Bool × List (Option Nat) × List (Int × Int × Int × Bool)) ⊕ (Int × Bool × Nat × Nat × Int × Int × Int × Int × Bool × List (Option Nat) × List (Int × Int × Int × Bool))) (S.PlainRings_g0 l len w g q K))) (opt_lift fun o14 => (opt_lift fun o15 => (bif_lift (f := (oK (β := (Nat × Nat × Int × Int × Int × Int × Bool × List (Option Nat) × List (Int × Int × Int × Bool)) ⊕ (Int × Bool × Nat × Nat × Int × Int × Int × Int × Bool × List (Option Nat) × List (Int × Int × Int × Bool))) (S.PlainRings_g0 l len w g q K))) (opt_lift fun o17 => (bif_lift (f := (oK (β := (Nat × Nat × Int × Int × Int × Int × Bool × List (Option Nat) × List (Int × Int × Int × Bool)) ⊕ (Int × Bool × Nat × Nat × Int × Int × Int × Int × Bool × List (Option Nat) × List (Int × Int × Int × Bool))) (S.PlainRings_g0 l len w g q K))) rfl (bif_lift (f := (oK (β := (Nat × Nat × Int × Int × Int × Int × Bool × List (Option Nat) × List (Int × Int × Int × Bool)) ⊕ (Int × Bool × Nat × Nat × Int × Int × Int × Int × Bool × List (Option Nat) × List (Int × Int × Int × Bool))) (S.PlainRings_g0 l len w g q K))) rfl (opt_lift fun o20 => (bif_lift (f := (oK (β := (Nat × Nat × Int × Int × Int × Int × Bool × List (Option Nat) × List (Int × Int × Int × Bool)) ⊕ (Int × Bool × Nat × Nat × Int × Int × Int × Int × Bool × List (Option Nat) × List (Int × Int × Int × Bool))) (S.PlainRings_g0 l len w g q K))) (opt_lift fun o22 => (bif_lift (f := (oK (β := (Nat × Nat × Int × Int × Int × Int × Bool × List (Option Nat) × List (Int × Int × Int × Bool)) ⊕ (Int × Bool × Nat × Nat × Int × Int × Int × Int × Bool × List (Option Nat) × List (Int × Int × Int × Bool))) (S.PlainRings_g0 l len w g q K))) rfl (S.PlainRings_l0_v fu l len w g q K n (Go.IntKind.wrap .i64 (y0 + 1)) (o20.2.1) (o20.2.2.1) (o20.2.2.2.1) (o20.2.2.2.2.1) (o20.2.2.2.2.2.1) (o20.2.2.2.2.2.2.1) (o20.2.2.2.2.2.2.2.1) (o20.2.2.2.2.2.2.2.2.1) (o20.2.2.2.2.2.2.2.2.2)))) rfl))))) rfl))) rfl) (bif_lift (f := (oK (β := (Nat × Nat × Int × Int × Int × Int × Bool × List (Option Nat) × List (Int × Int × Int × Bool)) ⊕ (Int × Bool × Nat × Nat × Int × Int × Int × Int × Bool × List (Option Nat) × List (Int × Int × Int × Bool))) (S.PlainRings_g0 l len w g q K))) (opt_lift fun o14 => (bif_lift (f := (oK (β := (Nat × Nat × Int × Int × Int × Int × Bool × List (Option Nat) × List (Int × Int × Int × Bool)) ⊕ (Int × Bool × Nat × Nat × Int × Int × Int × Int × Bool × List (Option Nat) × List (Int × Int × Int × Bool))) (S.PlainRings_g0 l len w g q K))) (bif_lift (f := (oK (β := (Nat × Nat × Int × Int × Int × Int × Bool × List (Option Nat) × List (Int × Int × Int × Bool)) ⊕ (Int × Bool × Nat × Nat × Int × Int × Int × Int × Bool × List (Option Nat) × List (Int × Int × Int × Bool))) (S.PlainRings_g0 l len w g q K))) (opt_lift fun o17 => (opt_lift fun o18 => (bif_lift (f := (oK (β := (Nat × Nat × Int × Int × Int × Int × Bool × List (Option Nat) × List (Int × Int × Int × Bool)) ⊕ (Int × Bool × Nat × Nat × Int × Int × Int × Int × Bool × List (Option Nat) × List (Int × Int × Int × Bool))) (S.PlainRings_g0 l len w g q K))) (opt_lift fun o20 => (bif_lift (f := (oK (β := (Nat × Nat × Int × Int × Int × Int × Bool × List (Option Nat) × List (Int × Int × Int × Bool)) ⊕ (Int × Bool × Nat × Nat × Int × Int × Int × Int × Bool × List (Option Nat) × List (Int × Int × Int × Bool))) (S.PlainRings_g0 l len w g q K))) rfl (bif_lift (f := (oK (β := (Nat × Nat × Int × Int × Int × Int × Bool × List (Option Nat) × List (Int × Int × Int × Bool)) ⊕ (Int × Bool × Nat × Nat × Int × Int × Int × Int × Bool × List (Option Nat) × List (Int × Int × Int × Bool))) (S.PlainRings_g0 l len w g q K))) rfl (opt_lift fun o23 => (bif_lift (f := (oK (β := (Nat × Nat × Int × Int × Int × Int × Bool × List (Option Nat) × List (Int × Int × Int × Bool)) ⊕ (Int × Bool × Nat × Nat × Int × Int × Int × Int × Bool × List (Option Nat) × List (Int × Int × Int × Bool))) (S.PlainRings_g0 l len w g q K))) (opt_lift fun o25 => (bif_lift (f := (oK (β := (Nat × Nat × Int × Int × Int × Int × Bool × List (Option Nat) × List (Int × Int × Int × Bool)) ⊕ (Int × Bool × Nat × Nat × Int × Int × Int × Int × Bool × List (Option Nat) × List (Int × Int × Int × Bool))) (S.PlainRings_g0 l len w g q K))) rfl (S.PlainRings_l0_v fu l len w g q K n (Go.IntKind.wrap .i64 (y0 + 1)) (o23.2.1) (o23.2.2.1) (o23.2.2.2.1) (o23.2.2.2.2.1) (o23.2.2.2.2.2.1) (o23.2.2.2.2.2.2.1) (o23.2.2.2.2.2.2.2.1) (o23.2.2.2.2.2.2.2.2.1) (o23.2.2.2.2.2.2.2.2.2)))) rfl))))) rfl))) rfl) (opt_lift fun o16 => (bif_lift (f := (oK (β := (Nat × Nat × Int × Int × Int × Int × Bool × List (Option Nat) × List (Int × Int × Int × Bool)) ⊕ (Int × Bool × Nat × Nat × Int × Int × Int × Int × Bool × List (Option Nat) × List (Int × Int × Int × Bool))) (S.PlainRings_g0 l len w g q K))) (opt_lift fun o18 => (bif_lift (f := (oK (β := (Nat × Nat × Int × Int × Int × Int × Bool × List (Option Nat) × List (Int × Int × Int × Bool)) ⊕ (Int × Bool × Nat × Nat × Int × Int × Int × Int × Bool × List (Option Nat) × List (Int × Int × Int × Bool))) (S.PlainRings_g0 l len w g q K))) rfl (bif_lift (f := (oK (β := (Nat × Nat × Int × Int × Int × Int × Bool × List (Option Nat) × List (Int × Int × Int × Bool)) ⊕ (Int × Bool × Nat × Nat × Int × Int × Int × Int × Bool × List (Option Nat) × List (Int × Int × Int × Bool))) (S.PlainRings_g0 l len w g q K))) rfl (opt_lift fun o21 => (bif_lift (f := (oK (β := (Nat × Nat × Int × Int × Int × Int × Bool × List (Option Nat) × List (Int × Int × Int × Bool)) ⊕ (Int × Bool × Nat × Nat × Int × Int × Int × Int × Bool × List (Option Nat) × List (Int × Int × Int × Bool))) (S.PlainRings_g0 l len w g q K))) (opt_lift fun o23 => (bif_lift (f := (oK (β := (Nat × Nat × Int × Int × Int × Int × Bool × List (Option Nat) × List (Int × Int × Int × Bool)) ⊕ (Int × Bool × Nat × Nat × Int × Int × Int × Int × Bool × List (Option Nat) × List (Int × Int × Int × Bool))) (S.PlainRings_g0 l len w g q K))) rfl (S.PlainRings_l0_v fu l len w g q K n (Go.IntKind.wrap .i64 (y0 + 1)) (o21.2.1) (o21.2.2.1) (o21.2.2.2.1) (o21.2.2.2.2.1) (o21.2.2.2.2.2.1) (o21.2.2.2.2.2.2.1) (o21.2.2.2.2.2.2.2.1) (o21.2.2.2.2.2.2.2.2.1) (o21.2.2.2.2.2.2.2.2.2)))) rfl))))) rfl)))) rfl))) rfl)) rfl))) rfl)) rfl) rfl)
theorem S.PlainRings_a0_1_k {R : Type} (fu : Nat) (l : RL) (len : Nat) (w g q : Int) (z0 : Int) (z1 : Bool) (z2 : Nat) (z3 : Nat) (z4 : Int) (z5 : Int) (z6 : Int) (z7 : Int) (z8 : Bool) (z9 : List (Option Nat)) (z10 : List (Int × Int × Int × Bool)) (k : AVal → List Blk → Option R) : contOf (C_PlainRings fu l len w g q) G18s (bodyOf Try.f6) [1, 1, 1, 1, 1, 1, 0, 1, 0] (retK tis F6 Try.f6 (List.length ([.rows (.pair (.int .i64) (.int .i64)) l true] : List Blk)) k) (Ex.exit 0) (S.PlainRings_x0_1 l len w g q (z0) (z1) (z2) (z3) (z4) (z5) (z6) (z7) (z8) (z9) (z10)) =
  (k (.bool true) ([.rows (Cd.pair (Cd.int .i64) (Cd.int .i64)) l true])) := by kernel_rfl
noncomputable def S.PlainRings_a0_1 (fu : Nat) (l : RL) (len : Nat) (w g q : Int) (z0 : Int) (z1 : Bool) (z2 : Nat) (z3 : Nat) (z4 : Int) (z5 : Int) (z6 : Int) (z7 : Int) (z8 : Bool) (z9 : List (Option Nat)) (z10 : List (Int × Int × Int × Bool)) : Option (Bool) :=
  some (true)
theorem S.PlainRings_a0_1_v {R : Type} (fu : Nat) (l : RL) (len : Nat) (w g q : Int) (z0 : Int) (z1 : Bool) (z2 : Nat) (z3 : Nat) (z4 : Int) (z5 : Int) (z6 : Int) (z7 : Int) (z8 : Bool) (z9 : List (Option Nat)) (z10 : List (Int × Int × Int × Bool)) (k : AVal → List Blk → Option R) : contOf (C_PlainRings fu l len w g q) G18s (bodyOf Try.f6) [1, 1, 1, 1, 1, 1, 0, 1, 0] (retK tis F6 Try.f6 (List.length ([.rows (.pair (.int .i64) (.int .i64)) l true] : List Blk)) k) (Ex.exit 0) (S.PlainRings_x0_1 l len w g q (z0) (z1) (z2) (z3) (z4) (z5) (z6) (z7) (z8) (z9) (z10)) = oK (S.PlainRings_gk l len w g q k) (S.PlainRings_a0_1 fu l len w g q z0 z1 z2 z3 z4 z5 z6 z7 z8 z9 z10) :=
  (S.PlainRings_a0_1_k fu l len w g q z0 z1 z2 z3 z4 z5 z6 z7 z8 z9 z10 k).trans rfl
theorem S.PlainRings_a0_0_k {R : Type} (fu : Nat) (l : RL) (len : Nat) (w g q : Int) (z0 : Nat) (z1 : Nat) (z2 : Int) (z3 : Int) (z4 : Int) (z5 : Int) (z6 : Bool) (z7 : List (Option Nat)) (z8 : List (Int × Int × Int × Bool)) (k : AVal → List Blk → Option R) : contOf (C_PlainRings fu l len w g q) G18s (bodyOf Try.f6) [1, 1, 1, 1, 1, 1, 0, 1, 0] (retK tis F6 Try.f6 (List.length ([.rows (.pair (.int .i64) (.int .i64)) l true] : List Blk)) k) (Ex.ret) (S.PlainRings_x0_0 l len w g q (z0) (z1) (z2) (z3) (z4) (z5) (z6) (z7) (z8)) =
  (k (.bool false) ([.rows (Cd.pair (Cd.int .i64) (Cd.int .i64)) l true])) := by kernel_rfl
noncomputable def S.PlainRings_a0_0 (fu : Nat) (l : RL) (len : Nat) (w g q : Int) (z0 : Nat) (z1 : Nat) (z2 : Int) (z3 : Int) (z4 : Int) (z5 : Int) (z6 : Bool) (z7 : List (Option Nat)) (z8 : List (Int × Int × Int × Bool)) : Option (Bool) :=
  some (false)
theorem S.PlainRings_a0_0_v {R : Type} (fu : Nat) (l : RL) (len : Nat) (w g q : Int) (z0 : Nat) (z1 : Nat) (z2 : Int) (z3 : Int) (z4 : Int) (z5 : Int) (z6 : Bool) (z7 : List (Option Nat)) (z8 : List (Int × Int × Int × Bool)) (k : AVal → List Blk → Option R) : contOf (C_PlainRings fu l len w g q) G18s (bodyOf Try.f6) [1, 1, 1, 1, 1, 1, 0, 1, 0] (retK tis F6 Try.f6 (List.length ([.rows (.pair (.int .i64) (.int .i64)) l true] : List Blk)) k) (Ex.ret) (S.PlainRings_x0_0 l len w g q (z0) (z1) (z2) (z3) (z4) (z5) (z6) (z7) (z8)) = oK (S.PlainRings_gk l len w g q k) (S.PlainRings_a0_0 fu l len w g q z0 z1 z2 z3 z4 z5 z6 z7 z8) :=
  (S.PlainRings_a0_0_k fu l len w g q z0 z1 z2 z3 z4 z5 z6 z7 z8 k).trans rfl
theorem S.PlainRings_k {R : Type} (fu : Nat) (l : RL) (len : Nat) (w g q : Int) (k : AVal → List Blk → Option R) : fnEval tis F6 fu G18s Try.f6 [.slice 2 0 0 len none, .int .i64 w, .int .i64 g, .int .i64 q] [.rows (.pair (.int .i64) (.int .i64)) l true] k =
  (bif decide (60 < ((len : Nat) : Int)) then
    k (.bool true) ([.rows (Cd.pair (Cd.int .i64) (Cd.int .i64)) l true])
  else
    bif decide (Go.IntKind.wrap .u64 (Go.IntKind.wrap .i64 (1 + Go.IntKind.wrap .i64 (Int.tmod (Go.IntKind.wrap .u64 w) 40))) = 0) then
      none
    else
      (optK (S.q_pring (Go.IntKind.wrap .i64 (1 + Go.IntKind.wrap .i64 (Int.tmod (Go.IntKind.wrap .u64 w) 40))) (Go.IntKind.wrap .i64 (1 + Go.IntKind.wrap .i64 (Int.tmod (Go.IntKind.wrap .u64 g) (Go.IntKind.wrap .u64 (Go.IntKind.wrap .i64 (1 + Go.IntKind.wrap .i64 (Int.tmod (Go.IntKind.wrap .u64 w) 40)))))))) fun o4 =>
        (Sum.elim (fun o5 : Unit =>
    k (.bool false) ([.rows (Cd.pair (Cd.int .i64) (Cd.int .i64)) l true])) (fun o5 : Int × Int × Int =>
    loopRun (C_PlainRings fu l len w g q) G18s S.PlainRings_b0 fu (S.PlainRings_s0 l len w g q (0) (0) (0) (o5.1) (o5.2.1) (o5.2.2) (-1) (false) ([]) ([])) (contOf (C_PlainRings fu l len w g q) G18s (bodyOf Try.f6) [1, 1, 1, 1, 1, 1, 0, 1, 0] (retK tis F6 Try.f6 (List.length ([.rows (.pair (.int .i64) (.int .i64)) l true] : List Blk)) k))) (o4)))) := by kernel_rfl
noncomputable def S.PlainRings (fu : Nat) (l : RL) (len : Nat) (w g q : Int) : Option (Bool) :=
  bif decide (60 < ((len : Nat) : Int)) then
    some (true)
  else
    bif decide (Go.IntKind.wrap .u64 (Go.IntKind.wrap .i64 (1 + Go.IntKind.wrap .i64 (Int.tmod (Go.IntKind.wrap .u64 w) 40))) = 0) then
      none
    else
      (optK (S.q_pring (Go.IntKind.wrap .i64 (1 + Go.IntKind.wrap .i64 (Int.tmod (Go.IntKind.wrap .u64 w) 40))) (Go.IntKind.wrap .i64 (1 + Go.IntKind.wrap .i64 (Int.tmod (Go.IntKind.wrap .u64 g) (Go.IntKind.wrap .u64 (Go.IntKind.wrap .i64 (1 + Go.IntKind.wrap .i64 (Int.tmod (Go.IntKind.wrap .u64 w) 40)))))))) fun o4 =>
        (Sum.elim (fun o5 : Unit =>
    some (false)) (fun o5 : Int × Int × Int =>
    optK (S.PlainRings_l0 fu l len w g q fu (0) (0) (0) (o5.1) (o5.2.1) (o5.2.2) (-1) (false) ([]) ([])) (Sum.elim (fun z : Nat × Nat × Int × Int × Int × Int × Bool × List (Option Nat) × List (Int × Int × Int × Bool) => S.PlainRings_a0_0 fu l len w g q (z.1) (z.2.1) (z.2.2.1) (z.2.2.2.1) (z.2.2.2.2.1) (z.2.2.2.2.2.1) (z.2.2.2.2.2.2.1) (z.2.2.2.2.2.2.2.1) (z.2.2.2.2.2.2.2.2)) (fun z : Int × Bool × Nat × Nat × Int × Int × Int × Int × Bool × List (Option Nat) × List (Int × Int × Int × Bool) => S.PlainRings_a0_1 fu l len w g q (z.1) (z.2.1) (z.2.2.1) (z.2.2.2.1) (z.2.2.2.2.1) (z.2.2.2.2.2.1) (z.2.2.2.2.2.2.1) (z.2.2.2.2.2.2.2.1) (z.2.2.2.2.2.2.2.2.1) (z.2.2.2.2.2.2.2.2.2.1) (z.2.2.2.2.2.2.2.2.2.2)))) (o4)))
theorem S.PlainRings_v {R : Type} (fu : Nat) (l : RL) (len : Nat) (w g q : Int) (k : AVal → List Blk → Option R) : fnEval tis F6 fu G18s Try.f6 [.slice 2 0 0 len none, .int .i64 w, .int .i64 g, .int .i64 q] [.rows (.pair (.int .i64) (.int .i64)) l true] k = oK (fun v : Bool => k (.bool v) [(.rows (Cd.pair (Cd.int .i64) (Cd.int .i64)) l true)]) (S.PlainRings fu l len w g q) :=
  (S.PlainRings_k fu l len w g q k).trans (by
      unfold S.PlainRings
      refine bif_lift (f := (oK (S.PlainRings_gk l len w g q k))) ?_ ?_
      · 
        exact rfl
      · 
        refine bif_lift (f := (oK (S.PlainRings_gk l len w g q k))) ?_ ?_
        · 
          exact rfl
        · 
          refine opt_lift fun o4 => ?_
          refine sumF_lift (f := (oK (S.PlainRings_gk l len w g q k))) (fun o5 => ?_) (fun o5 => ?_) _
          · 
            exact rfl
          · 
            exact (arr_lift (S.PlainRings_l0_v fu l len w g q (contOf (C_PlainRings fu l len w g q) G18s (bodyOf Try.f6) [1, 1, 1, 1, 1, 1, 0, 1, 0] (retK tis F6 Try.f6 (List.length ([.rows (.pair (.int .i64) (.int .i64)) l true] : List Blk)) k)) fu (0) (0) (0) (o5.1) (o5.2.1) (o5.2.2) (-1) (false) ([]) ([])) ((sum_lift (fun z => S.PlainRings_a0_0_v fu l len w g q (z.1) (z.2.1) (z.2.2.1) (z.2.2.2.1) (z.2.2.2.2.1) (z.2.2.2.2.2.1) (z.2.2.2.2.2.2.1) (z.2.2.2.2.2.2.2.1) (z.2.2.2.2.2.2.2.2) k) (fun z => S.PlainRings_a0_1_v fu l len w g q (z.1) (z.2.1) (z.2.2.1) (z.2.2.2.1) (z.2.2.2.2.1) (z.2.2.2.2.2.1) (z.2.2.2.2.2.2.1) (z.2.2.2.2.2.2.2.1) (z.2.2.2.2.2.2.2.2.1) (z.2.2.2.2.2.2.2.2.2.1) (z.2.2.2.2.2.2.2.2.2.2) k))))
      )
noncomputable def H6 : Hnd := fun R args σ k => match args, σ with
  | [.slice 2 0 0 len none, .int .i64 w, .int .i64 g, .int .i64 q], [.rows (.pair (.int .i64) (.int .i64)) l true] => oK (fun v : Bool => k (.bool v) [(.rows (Cd.pair (Cd.int .i64) (Cd.int .i64)) l true)]) (S.PlainRings 100000 l len w g q)
  | _, _ => none
theorem H6_ok : HndOk Try.prog 6 H6 := hnd_ok tis tisOk mixOk G18s_ok F6 Try.func6 rfl (by
  intro R args σ k r h
  unfold H6 at h
  split at h
  · rename_i len w g q l; exact ⟨100000, (S.PlainRings_v 100000 l len w g q _).trans h⟩
  · cases h)
noncomputable def G6 : Env := Env.add 6 H6 G18s
theorem G6_ok : EnvOk Try.prog G6 := envAdd_ok H6_ok G18s_ok
end Go.Proofs.Ytfoaihjkmfhaoaa.AB
