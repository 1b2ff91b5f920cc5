/- PlainParts, as a plain function. -/
import Derived.Test.YtfoaihjkmfhaoaaSplainz
namespace Go.Proofs.Ytfoaihjkmfhaoaa.AB
set_option linter.unusedVariables false

/-! spinnakerlaw6.PlainParts -/
def F5 : FCfg := ⟨keepAt [(0, [0, 1]), (1, [0, 1, 19]), (2, [4]), (3, [0, 1, 5, 6]), (4, [0, 1, 5, 6, 7]), (5, [0, 1, 5, 6, 7, 24]), (6, [0, 1, 5, 6, 7]), (7, [0, 1, 5, 6, 7, 8]), (8, [0, 1, 5, 6, 7, 8]), (9, [0, 1, 5, 6, 7]), (10, [5, 6, 9]), (11, [5, 6, 9, 10, 11]), (12, [5, 6, 9, 10, 11, 12, 13]), (13, [5, 6, 9, 10, 11, 12, 13, 14]), (14, [5, 6, 9, 10, 11, 12, 13, 14, 15]), (15, [5, 6, 9, 10, 11, 12, 13, 14, 15, 16]), (16, [5, 6, 9, 10, 11, 12, 13, 14, 15, 16, 76]), (17, [5, 6, 9, 10, 11, 12, 13, 14, 15, 16]), (18, [5, 6, 9, 10, 11, 12, 13, 14, 15, 16, 105]), (19, [5, 6, 9, 10, 11, 12, 13, 14, 15, 16]), (20, [4])], loopAt [(5, [0, 1, 5, 6, 7], [⟨true, 5, 0, (.pair (.int .i64) (.int .i64))⟩, ⟨true, 6, 0, (.pair (.int .i64) (.int .i64))⟩]), (16, [5, 6, 9, 10, 11, 12, 13, 14, 15, 16], [])], []⟩
noncomputable def C_PlainParts (fu : Nat) (l : RL) (len : Nat) (t : Int) : Cfg := Cfg.of tis F5 fu (List.length ([.rows (.pair (.int .i64) (.int .i64)) l true] : List Blk)) Try.f5.ntmps
noncomputable def S.PlainParts_b0 : Code := codeAt (bodyOf Try.f5) [1, 1, 1, 0, 1, 0, 0]
noncomputable def S.PlainParts_b1 : Code := codeAt (bodyOf Try.f5) [1, 1, 1, 1, 1, 1, 1, 1, 1, 0, 1, 0, 0]
noncomputable def S.PlainParts_s0 (l : RL) (len : Nat) (t : Int) (y0 : Nat) (y1 : Nat) (y2 : Int) (y3 : List (Int × Int)) (y4 : List (Int × Int)) : St := ⟨[(0, (.slice 2 0 (0) (len) none)), (1, (.int .i64 (t))), (5, (.slice 2 1 (0) (y0) none)), (6, (.slice 2 2 (0) (y1) none)), (7, (.int .i64 (y2)))], [(.rows (Cd.pair (Cd.int .i64) (Cd.int .i64)) l true), (.rows (Cd.pair (Cd.int .i64) (Cd.int .i64)) (y3) false), (.rows (Cd.pair (Cd.int .i64) (Cd.int .i64)) (y4) false)]⟩
noncomputable def S.PlainParts_x0_0 (l : RL) (len : Nat) (t : Int) (z0 : Nat) (z1 : Nat) (z2 : Int) (z3 : Bool) (z4 : List (Int × Int)) (z5 : List (Int × Int)) : St := ⟨[(0, (.slice 2 0 (0) (len) none)), (1, (.int .i64 (t))), (5, (.slice 2 1 (0) (z0) none)), (6, (.slice 2 2 (0) (z1) none)), (7, (.int .i64 (z2))), (24, (.bool (z3)))], [(.rows (Cd.pair (Cd.int .i64) (Cd.int .i64)) l true), (.rows (Cd.pair (Cd.int .i64) (Cd.int .i64)) (z4) false), (.rows (Cd.pair (Cd.int .i64) (Cd.int .i64)) (z5) false)]⟩
noncomputable def S.PlainParts_s1 (l : RL) (len : Nat) (t : Int) (y0 : Nat) (y1 : Nat) (y2 : Int) (y3 : Int) (y4 : Int) (y5 : Int) (y6 : Int) (y7 : Int) (y8 : Int) (y9 : List (Int × Int)) (y10 : List (Int × Int)) : St := ⟨[(5, (.slice 2 1 (0) (y0) none)), (6, (.slice 2 2 (0) (y1) none)), (9, (.int .i64 (Go.IntKind.wrap .i64 (Int.tmod (Go.IntKind.wrap .u64 t) 60)))), (10, (.int .i64 (y2))), (11, (.int .i64 (y3))), (12, (.int .i64 (y4))), (13, (.int .i64 (y5))), (14, (.int .i64 (y6))), (15, (.int .i64 (y7))), (16, (.int .i64 (y8)))], [(.rows (Cd.pair (Cd.int .i64) (Cd.int .i64)) l true), (.rows (Cd.pair (Cd.int .i64) (Cd.int .i64)) (y9) false), (.rows (Cd.pair (Cd.int .i64) (Cd.int .i64)) (y10) false)]⟩
noncomputable def S.PlainParts_x1_0 (l : RL) (len : Nat) (t : Int) (z0 : Nat) (z1 : Nat) (z2 : Int) (z3 : Int) (z4 : Int) (z5 : Int) (z6 : Int) (z7 : Int) (z8 : Int) (z9 : Bool) (z10 : List (Int × Int)) (z11 : List (Int × Int)) : St := ⟨[(5, (.slice 2 1 (0) (z0) none)), (6, (.slice 2 2 (0) (z1) none)), (9, (.int .i64 (Go.IntKind.wrap .i64 (Int.tmod (Go.IntKind.wrap .u64 t) 60)))), (10, (.int .i64 (z2))), (11, (.int .i64 (z3))), (12, (.int .i64 (z4))), (13, (.int .i64 (z5))), (14, (.int .i64 (z6))), (15, (.int .i64 (z7))), (16, (.int .i64 (z8))), (76, (.bool (z9)))], [(.rows (Cd.pair (Cd.int .i64) (Cd.int .i64)) l true), (.rows (Cd.pair (Cd.int .i64) (Cd.int .i64)) (z10) false), (.rows (Cd.pair (Cd.int .i64) (Cd.int .i64)) (z11) false)]⟩
theorem S.PlainParts_l1_k {R : Type} (fu : Nat) (l : RL) (len : Nat) (t : Int) (n : Nat) (K : Ex → St → Option R) (y0 : Nat) (y1 : Nat) (y2 : Int) (y3 : Int) (y4 : Int) (y5 : Int) (y6 : Int) (y7 : Int) (y8 : Int) (y9 : List (Int × Int)) (y10 : List (Int × Int)) : loopRun (C_PlainParts fu l len t) G18s S.PlainParts_b1 (n + 1) (S.PlainParts_s1 l len t (y0) (y1) (y2) (y3) (y4) (y5) (y6) (y7) (y8) (y9) (y10)) K =
  (bif decide (y8 < ((y0 : Nat) : Int)) then
    bif inB y8 y0 then
      (optK (y9[Int.toNat y8 + 0]?) fun o4 =>
        bif decide (Prod.fst o4 ≤ Go.IntKind.wrap .i64 (Int.tmod (Go.IntKind.wrap .u64 t) 60)) then
          bif inB y8 y0 then
            (optK (y9[Int.toNat y8 + 0]?) fun o7 =>
              bif decide (Go.IntKind.wrap .i64 (Go.IntKind.wrap .i64 (Int.tmod (Go.IntKind.wrap .u64 t) 60) - 10) < Prod.fst o7) then
                bif inB y8 y0 then
                  (optK (y9[Int.toNat y8 + 0]?) fun o10 =>
                    bif decide (Go.IntKind.wrap .i64 (y6 - 10) < Prod.fst o10) then
                      loopRun (C_PlainParts fu l len t) G18s S.PlainParts_b1 n (S.PlainParts_s1 l len t (y0) (y1) (y2) (y3) (y4) (y5) (y6) (Go.IntKind.wrap .i64 (y7 + 1)) (Go.IntKind.wrap .i64 (y8 + 1)) (y9) (y10)) K
                    else
                      loopRun (C_PlainParts fu l len t) G18s S.PlainParts_b1 n (S.PlainParts_s1 l len t (y0) (y1) (y2) (y3) (y4) (y5) (y6) (y7) (Go.IntKind.wrap .i64 (y8 + 1)) (y9) (y10)) K)
                else
                  none
              else
                loopRun (C_PlainParts fu l len t) G18s S.PlainParts_b1 n (S.PlainParts_s1 l len t (y0) (y1) (y2) (y3) (y4) (y5) (y6) (y7) (Go.IntKind.wrap .i64 (y8 + 1)) (y9) (y10)) K)
          else
            none
        else
          loopRun (C_PlainParts fu l len t) G18s S.PlainParts_b1 n (S.PlainParts_s1 l len t (y0) (y1) (y2) (y3) (y4) (y5) (y6) (y7) (Go.IntKind.wrap .i64 (y8 + 1)) (y9) (y10)) K)
    else
      none
  else
    K (Ex.exit 2) (S.PlainParts_x1_0 l len t (y0) (y1) (y2) (y3) (y4) (y5) (y6) (y7) (y8) (decide (y8 < ((y0 : Nat) : Int))) (y9) (y10))) := by kernel_rfl
noncomputable def S.PlainParts_l1 (fu : Nat) (l : RL) (len : Nat) (t : Int) : Nat → (Nat) → (Nat) → (Int) → (Int) → (Int) → (Int) → (Int) → (Int) → (Int) → (List (Int × Int)) → (List (Int × Int)) → Option ((Nat × Nat × Int × Int × Int × Int × Int × Int × Int × Bool × List (Int × Int) × List (Int × Int)))
  | 0, _, _, _, _, _, _, _, _, _, _, _ => none
  | n + 1, y0, y1, y2, y3, y4, y5, y6, y7, y8, y9, y10 =>
    bif decide (y8 < ((y0 : Nat) : Int)) then
      bif inB y8 y0 then
        (optK (y9[Int.toNat y8 + 0]?) fun o4 =>
          bif decide (Prod.fst o4 ≤ Go.IntKind.wrap .i64 (Int.tmod (Go.IntKind.wrap .u64 t) 60)) then
            bif inB y8 y0 then
              (optK (y9[Int.toNat y8 + 0]?) fun o7 =>
                bif decide (Go.IntKind.wrap .i64 (Go.IntKind.wrap .i64 (Int.tmod (Go.IntKind.wrap .u64 t) 60) - 10) < Prod.fst o7) then
                  bif inB y8 y0 then
                    (optK (y9[Int.toNat y8 + 0]?) fun o10 =>
                      bif decide (Go.IntKind.wrap .i64 (y6 - 10) < Prod.fst o10) then
                        (S.PlainParts_l1 fu l len t n) (y0) (y1) (y2) (y3) (y4) (y5) (y6) (Go.IntKind.wrap .i64 (y7 + 1)) (Go.IntKind.wrap .i64 (y8 + 1)) (y9) (y10)
                      else
                        (S.PlainParts_l1 fu l len t n) (y0) (y1) (y2) (y3) (y4) (y5) (y6) (y7) (Go.IntKind.wrap .i64 (y8 + 1)) (y9) (y10))
                  else
                    none
                else
                  (S.PlainParts_l1 fu l len t n) (y0) (y1) (y2) (y3) (y4) (y5) (y6) (y7) (Go.IntKind.wrap .i64 (y8 + 1)) (y9) (y10))
            else
              none
          else
            (S.PlainParts_l1 fu l len t n) (y0) (y1) (y2) (y3) (y4) (y5) (y6) (y7) (Go.IntKind.wrap .i64 (y8 + 1)) (y9) (y10))
      else
        none
    else
      some (y0, y1, y2, y3, y4, y5, y6, y7, y8, decide (y8 < ((y0 : Nat) : Int)), y9, y10)
theorem S.PlainParts_l1_v {R : Type} (fu : Nat) (l : RL) (len : Nat) (t : Int) (K : Ex → St → Option R) : ∀ (n : Nat) (y0 : Nat) (y1 : Nat) (y2 : Int) (y3 : Int) (y4 : Int) (y5 : Int) (y6 : Int) (y7 : Int) (y8 : Int) (y9 : List (Int × Int)) (y10 : List (Int × Int)), loopRun (C_PlainParts fu l len t) G18s S.PlainParts_b1 n (S.PlainParts_s1 l len t (y0) (y1) (y2) (y3) (y4) (y5) (y6) (y7) (y8) (y9) (y10)) K = oK (β := (Nat × Nat × Int × Int × Int × Int × Int × Int × Int × Bool × List (Int × Int) × List (Int × Int))) (fun z : Nat × Nat × Int × Int × Int × Int × Int × Int × Int × Bool × List (Int × Int) × List (Int × Int) => K (Ex.exit 2) (S.PlainParts_x1_0 l len t (z.1) (z.2.1) (z.2.2.1) (z.2.2.2.1) (z.2.2.2.2.1) (z.2.2.2.2.2.1) (z.2.2.2.2.2.2.1) (z.2.2.2.2.2.2.2.1) (z.2.2.2.2.2.2.2.2.1) (z.2.2.2.2.2.2.2.2.2.1) (z.2.2.2.2.2.2.2.2.2.2.1) (z.2.2.2.2.2.2.2.2.2.2.2))) (S.PlainParts_l1 fu l len t n y0 y1 y2 y3 y4 y5 y6 y7 y8 y9 y10)
  | 0, _, _, _, _, _, _, _, _, _, _, _ => rfl
  | n + 1, y0, y1, y2, y3, y4, y5, y6, y7, y8, y9, y10 => (S.PlainParts_l1_k fu l len t n K y0 y1 y2 y3 y4 y5 y6 y7 y8 y9 y10).trans (bif_lift (f := (oK (β := (Nat × Nat × Int × Int × Int × Int × Int × Int × Int × Bool × List (Int × Int) × List (Int × Int))) (fun z : Nat × Nat × Int × Int × Int × Int × Int × Int × Int × Bool × List (Int × Int) × List (Int × Int) => K (Ex.exit 2) (S.PlainParts_x1_0 l len t (z.1) (z.2.1) (z.2.2.1) (z.2.2.2.1) (z.2.2.2.2.1) (z.2.2.2.2.2.1) (z.2.2.2.2.2.2.1) (z.2.2.2.2.2.2.2.1) (z.2.2.2.2.2.2.2.2.1) (z.2.2.2.2.2.2.2.2.2.1) (z.2.2.2.2.2.2.2.2.2.2.1) (z.2.2.2.2.2.2.2.2.2.2.2))))) (bif_lift (f := (oK (β := (Nat × Nat × Int × Int × Int × Int × Int × Int × Int × Bool × List (Int × Int) × List (Int × Int))) (fun z : Nat × Nat × Int × Int × Int × Int × Int × Int × Int × Bool × List (Int × Int) × List (Int × Int) => K (Ex.exit 2) (S.PlainParts_x1_0 l len t (z.1) (z.2.1) (z.2.2.1) (z.2.2.2.1) (z.2.2.2.2.1) (z.2.2.2.2.2.1) (z.2.2.2.2.2.2.1) (z.2.2.2.2.2.2.2.1) (z.2.2.2.2.2.2.2.2.1) (z.2.2.2.2.2.2.2.2.2.1) (z.2.2.2.2.2.2.2.2.2.2.1) (z.2.2.2.2.2.2.2.2.2.2.2))))) (opt_lift fun o4 => (bif_lift (f := (oK (β := (Nat × Nat × Int × Int × Int × Int × Int × Int × Int × Bool × List (Int × Int) × List (Int × Int))) (fun z : Nat × Nat × Int × Int × Int × Int × Int × Int × Int × Bool × List (Int × Int) × List (Int × Int) => K (Ex.exit 2) (S.PlainParts_x1_0 l len t (z.1) (z.2.1) (z.2.2.1) (z.2.2.2.1) (z.2.2.2.2.1) (z.2.2.2.2.2.1) (z.2.2.2.2.2.2.1) (z.2.2.2.2.2.2.2.1) (z.2.2.2.2.2.2.2.2.1) (z.2.2.2.2.2.2.2.2.2.1) (z.2.2.2.2.2.2.2.2.2.2.1) (z.2.2.2.2.2.2.2.2.2.2.2))))) (bif_lift (f := (oK (β := (Nat × Nat × Int × Int × Int × Int × Int × Int × Int × Bool × List (Int × Int) × List (Int × Int))) (fun z : Nat × Nat × Int × Int × Int × Int × Int × Int × Int × Bool × List (Int × Int) × List (Int × Int) => K (Ex.exit 2) (S.PlainParts_x1_0 l len t (z.1) (z.2.1) (z.2.2.1) (z.2.2.2.1) (z.2.2.2.2.1) (z.2.2.2.2.2.1) (z.2.2.2.2.2.2.1) (z.2.2.2.2.2.2.2.1) (z.2.2.2.2.2.2.2.2.1) (z.2.2.2.2.2.2.2.2.2.1) (z.2.2.2.2.2.2.2.2.2.2.1) (z.2.2.2.2.2.2.2.2.2.2.2))))) (opt_lift fun o7 => (bif_lift (f := (oK (β := (Nat × Nat × Int × Int × Int × Int × Int × Int × Int × Bool × List (Int × Int) × List (Int × Int))) (fun z : Nat × Nat × Int × Int × Int × Int × Int × Int × Int × Bool × List (Int × Int) × List (Int × Int) => K (Ex.exit 2) (S.PlainParts_x1_0 l len t (z.1) (z.2.1) (z.2.2.1) (z.2.2.2.1) (z.2.2.2.2.1) (z.2.2.2.2.2.1) (z.2.2.2.2.2.2.1) (z.2.2.2.2.2.2.2.1) (z.2.2.2.2.2.2.2.2.1) (z.2.2.2.2.2.2.2.2.2.1) (z.2.2.2.2.2.2.2.2.2.2.1) (z.2.2.2.2.2.2.2.2.2.2.2))))) (bif_lift (f := (oK (β := (Nat × Nat × Int × Int × Int × Int × Int × Int × Int × Bool × List (Int × Int) × List (Int × Int))) (fun z : Nat × Nat × Int × Int × Int × Int × Int × Int × Int × Bool × List (Int × Int) × List (Int × Int) => K (Ex.exit 2) (S.PlainParts_x1_0 l len t (z.1) (z.2.1) (z.2.2.1) (z.2.2.2.1) (z.2.2.2.2.1) (z.2.2.2.2.2.1) (z.2.2.2.2.2.2.1) (z.2.2.2.2.2.2.2.1) (z.2.2.2.2.2.2.2.2.1) (z.2.2.2.2.2.2.2.2.2.1) (z.2.2.2.2.2.2.2.2.2.2.1) (z.2.2.2.2.2.2.2.2.2.2.2))))) (opt_lift fun o10 => (bif_lift (f := (oK (β := (Nat × Nat × Int × Int × Int × Int × Int × Int × Int × Bool × List (Int × Int) × List (Int × Int))) (fun z : Nat × Nat × Int × Int × Int × Int × Int × Int × Int × Bool × List (Int × Int) × List (Int × Int) => K (Ex.exit 2) (S.PlainParts_x1_0 l len t (z.1) (z.2.1) (z.2.2.1) (z.2.2.2.1) (z.2.2.2.2.1) (z.2.2.2.2.2.1) (z.2.2.2.2.2.2.1) (z.2.2.2.2.2.2.2.1) (z.2.2.2.2.2.2.2.2.1) (z.2.2.2.2.2.2.2.2.2.1) (z.2.2.2.2.2.2.2.2.2.2.1) (z.2.2.2.2.2.2.2.2.2.2.2))))) (S.PlainParts_l1_v fu l len t K n (y0) (y1) (y2) (y3) (y4) (y5) (y6) (Go.IntKind.wrap .i64 (y7 + 1)) (Go.IntKind.wrap .i64 (y8 + 1)) (y9) (y10)) (S.PlainParts_l1_v fu l len t K n (y0) (y1) (y2) (y3) (y4) (y5) (y6) (y7) (Go.IntKind.wrap .i64 (y8 + 1)) (y9) (y10)))) rfl) (S.PlainParts_l1_v fu l len t K n (y0) (y1) (y2) (y3) (y4) (y5) (y6) (y7) (Go.IntKind.wrap .i64 (y8 + 1)) (y9) (y10)))) rfl) (S.PlainParts_l1_v fu l len t K n (y0) (y1) (y2) (y3) (y4) (y5) (y6) (y7) (Go.IntKind.wrap .i64 (y8 + 1)) (y9) (y10)))) rfl) rfl)
theorem S.PlainParts_a1_0_k {R : Type} (fu : Nat) (l : RL) (len : Nat) (t : Int) (z0 : Nat) (z1 : Nat) (z2 : Int) (z3 : Int) (z4 : Int) (z5 : Int) (z6 : Int) (z7 : Int) (z8 : Int) (z9 : Bool) (z10 : List (Int × Int)) (z11 : List (Int × Int)) (k : AVal → List Blk → Option R) : contOf (C_PlainParts fu l len t) G18s (bodyOf Try.f5) [1, 1, 1, 1, 1, 1, 1, 1, 1, 0, 1, 0] (retK tis F5 Try.f5 (List.length ([.rows (.pair (.int .i64) (.int .i64)) l true] : List Blk)) k) (Ex.exit 2) (S.PlainParts_x1_0 l len t (z0) (z1) (z2) (z3) (z4) (z5) (z6) (z7) (z8) (z9) (z10) (z11)) =
  (bif decide (z2 = z4) then
    bif decide (z3 = z5) then
      bif decide (z3 ≤ z7) then
        (optK (S.q_pnewest 100000 z11 0 z1 false) fun o5 =>
          bif decide (Prod.fst o5 = z6) then
            bif decide (0 < ((z0 : Nat) : Int)) then
              k (.bool true) ([.rows (Cd.pair (Cd.int .i64) (Cd.int .i64)) l true])
            else
              k (.bool (decide (z6 = -1))) ([.rows (Cd.pair (Cd.int .i64) (Cd.int .i64)) l true])
          else
            k (.bool false) ([.rows (Cd.pair (Cd.int .i64) (Cd.int .i64)) l true]))
      else
        k (.bool false) ([.rows (Cd.pair (Cd.int .i64) (Cd.int .i64)) l true])
    else
      k (.bool false) ([.rows (Cd.pair (Cd.int .i64) (Cd.int .i64)) l true])
  else
    k (.bool false) ([.rows (Cd.pair (Cd.int .i64) (Cd.int .i64)) l true])) := by kernel_rfl
noncomputable def S.PlainParts_a1_0 (fu : Nat) (l : RL) (len : Nat) (t : Int) (z0 : Nat) (z1 : Nat) (z2 : Int) (z3 : Int) (z4 : Int) (z5 : Int) (z6 : Int) (z7 : Int) (z8 : Int) (z9 : Bool) (z10 : List (Int × Int)) (z11 : List (Int × Int)) : Option (Bool) :=
  bif decide (z2 = z4) then
    bif decide (z3 = z5) then
      bif decide (z3 ≤ z7) then
        (optK (S.q_pnewest 100000 z11 0 z1 false) fun o5 =>
          bif decide (Prod.fst o5 = z6) then
            bif decide (0 < ((z0 : Nat) : Int)) then
              some (true)
            else
              some (decide (z6 = -1))
          else
            some (false))
      else
        some (false)
    else
      some (false)
  else
    some (false)
theorem S.PlainParts_a1_0_v {R : Type} (fu : Nat) (l : RL) (len : Nat) (t : Int) (z0 : Nat) (z1 : Nat) (z2 : Int) (z3 : Int) (z4 : Int) (z5 : Int) (z6 : Int) (z7 : Int) (z8 : Int) (z9 : Bool) (z10 : List (Int × Int)) (z11 : List (Int × Int)) (k : AVal → List Blk → Option R) : contOf (C_PlainParts fu l len t) G18s (bodyOf Try.f5) [1, 1, 1, 1, 1, 1, 1, 1, 1, 0, 1, 0] (retK tis F5 Try.f5 (List.length ([.rows (.pair (.int .i64) (.int .i64)) l true] : List Blk)) k) (Ex.exit 2) (S.PlainParts_x1_0 l len t (z0) (z1) (z2) (z3) (z4) (z5) (z6) (z7) (z8) (z9) (z10) (z11)) = oK (fun v : Bool => k (.bool v) [(.rows (Cd.pair (Cd.int .i64) (Cd.int .i64)) l true)]) (S.PlainParts_a1_0 fu l len t z0 z1 z2 z3 z4 z5 z6 z7 z8 z9 z10 z11) :=
  (S.PlainParts_a1_0_k fu l len t z0 z1 z2 z3 z4 z5 z6 z7 z8 z9 z10 z11 k).trans (bif_lift (f := (oK (fun v : Bool => k (.bool v) [(.rows (Cd.pair (Cd.int .i64) (Cd.int .i64)) l true)]))) (bif_lift (f := (oK (fun v : Bool => k (.bool v) [(.rows (Cd.pair (Cd.int .i64) (Cd.int .i64)) l true)]))) (bif_lift (f := (oK (fun v : Bool => k (.bool v) [(.rows (Cd.pair (Cd.int .i64) (Cd.int .i64)) l true)]))) (opt_lift fun o5 => (bif_lift (f := (oK (fun v : Bool => k (.bool v) [(.rows (Cd.pair (Cd.int .i64) (Cd.int .i64)) l true)]))) (bif_lift (f := (oK (fun v : Bool => k (.bool v) [(.rows (Cd.pair (Cd.int .i64) (Cd.int .i64)) l true)]))) rfl rfl) rfl)) rfl) rfl) rfl)
theorem S.PlainParts_l0_k {R : Type} (fu : Nat) (l : RL) (len : Nat) (t : Int) (n : Nat) (K : Ex → St → Option R) (y0 : Nat) (y1 : Nat) (y2 : Int) (y3 : List (Int × Int)) (y4 : List (Int × Int)) : loopRun (C_PlainParts fu l len t) G18s S.PlainParts_b0 (n + 1) (S.PlainParts_s0 l len t (y0) (y1) (y2) (y3) (y4)) K =
  (bif decide (y2 < ((len : Nat) : Int)) then
    bif inB y2 len then
      (optK (l[Int.toNat y2 + 0]?) fun o4 =>
        bif inB y2 len then
          (optK (l[Int.toNat y2 + 0]?) fun o6 =>
            bif Nat.beq 2 2 && Nat.blt 0 16 && Nat.beq 2 2 && Nat.beq 2 2 && Nat.beq 2 2 && Nat.blt 0 1 && !Nat.beq 1 4 && Nat.ble ((y0 + 1) * 16) 35184372088832 then
              bif Nat.beq 2 2 && Nat.blt 0 16 && Nat.beq 2 2 && Nat.beq 2 2 && Nat.beq 2 2 && Nat.blt 0 4 && !Nat.beq 2 6 && Nat.ble ((y1 + 4) * 16) 35184372088832 then
                loopRun (C_PlainParts fu l len t) G18s S.PlainParts_b0 n (S.PlainParts_s0 l len t (List.length (cutL y3 0 y0 ++ cutL [(Go.IntKind.wrap .i64 (Int.tmod (Go.IntKind.wrap .u64 (Prod.fst o4)) 50), Go.IntKind.wrap .i64 (Int.tmod (Go.IntKind.wrap .u64 (Prod.snd o6)) 1000))] 0 1)) (List.length (cutL y4 0 y1 ++ cutL [(Go.IntKind.wrap .i64 (Int.tmod (Go.IntKind.wrap .u64 (Prod.fst o4)) 50), Go.IntKind.wrap .i64 (Int.tmod (Go.IntKind.wrap .u64 (Prod.snd o6)) 1000)), (-1, 5), (3, -5), (1099511627777, 5)] 0 4)) (Go.IntKind.wrap .i64 (y2 + 1)) (cutL y3 0 y0 ++ cutL [(Go.IntKind.wrap .i64 (Int.tmod (Go.IntKind.wrap .u64 (Prod.fst o4)) 50), Go.IntKind.wrap .i64 (Int.tmod (Go.IntKind.wrap .u64 (Prod.snd o6)) 1000))] 0 1) (cutL y4 0 y1 ++ cutL [(Go.IntKind.wrap .i64 (Int.tmod (Go.IntKind.wrap .u64 (Prod.fst o4)) 50), Go.IntKind.wrap .i64 (Int.tmod (Go.IntKind.wrap .u64 (Prod.snd o6)) 1000)), (-1, 5), (3, -5), (1099511627777, 5)] 0 4)) K
              else
                none
            else
              none)
        else
          none)
    else
      none
  else
    K (Ex.exit 0) (S.PlainParts_x0_0 l len t (y0) (y1) (y2) (decide (y2 < ((len : Nat) : Int))) (y3) (y4))) := by kernel_rfl
noncomputable def S.PlainParts_l0 (fu : Nat) (l : RL) (len : Nat) (t : Int) : Nat → (Nat) → (Nat) → (Int) → (List (Int × Int)) → (List (Int × Int)) → Option ((Nat × Nat × Int × Bool × List (Int × Int) × List (Int × Int)))
  | 0, _, _, _, _, _ => none
  | n + 1, y0, y1, y2, y3, y4 =>
    bif decide (y2 < ((len : Nat) : Int)) then
      bif inB y2 len then
        (optK (l[Int.toNat y2 + 0]?) fun o4 =>
          bif inB y2 len then
            (optK (l[Int.toNat y2 + 0]?) fun o6 =>
              bif Nat.beq 2 2 && Nat.blt 0 16 && Nat.beq 2 2 && Nat.beq 2 2 && Nat.beq 2 2 && Nat.blt 0 1 && !Nat.beq 1 4 && Nat.ble ((y0 + 1) * 16) 35184372088832 then
                bif Nat.beq 2 2 && Nat.blt 0 16 && Nat.beq 2 2 && Nat.beq 2 2 && Nat.beq 2 2 && Nat.blt 0 4 && !Nat.beq 2 6 && Nat.ble ((y1 + 4) * 16) 35184372088832 then
                  (S.PlainParts_l0 fu l len t n) (List.length (cutL y3 0 y0 ++ cutL [(Go.IntKind.wrap .i64 (Int.tmod (Go.IntKind.wrap .u64 (Prod.fst o4)) 50), Go.IntKind.wrap .i64 (Int.tmod (Go.IntKind.wrap .u64 (Prod.snd o6)) 1000))] 0 1)) (List.length (cutL y4 0 y1 ++ cutL [(Go.IntKind.wrap .i64 (Int.tmod (Go.IntKind.wrap .u64 (Prod.fst o4)) 50), Go.IntKind.wrap .i64 (Int.tmod (Go.IntKind.wrap .u64 (Prod.snd o6)) 1000)), (-1, 5), (3, -5), (1099511627777, 5)] 0 4)) (Go.IntKind.wrap .i64 (y2 + 1)) (cutL y3 0 y0 ++ cutL [(Go.IntKind.wrap .i64 (Int.tmod (Go.IntKind.wrap .u64 (Prod.fst o4)) 50), Go.IntKind.wrap .i64 (Int.tmod (Go.IntKind.wrap .u64 (Prod.snd o6)) 1000))] 0 1) (cutL y4 0 y1 ++ cutL [(Go.IntKind.wrap .i64 (Int.tmod (Go.IntKind.wrap .u64 (Prod.fst o4)) 50), Go.IntKind.wrap .i64 (Int.tmod (Go.IntKind.wrap .u64 (Prod.snd o6)) 1000)), (-1, 5), (3, -5), (1099511627777, 5)] 0 4)
                else
                  none
              else
                none)
          else
            none)
      else
        none
    else
      some (y0, y1, y2, decide (y2 < ((len : Nat) : Int)), y3, y4)
theorem S.PlainParts_l0_v {R : Type} (fu : Nat) (l : RL) (len : Nat) (t : Int) (K : Ex → St → Option R) : ∀ (n : Nat) (y0 : Nat) (y1 : Nat) (y2 : Int) (y3 : List (Int × Int)) (y4 : List (Int × Int)), loopRun (C_PlainParts fu l len t) G18s S.PlainParts_b0 n (S.PlainParts_s0 l len t (y0) (y1) (y2) (y3) (y4)) K = oK (β := (Nat × Nat × Int × Bool × List (Int × Int) × List (Int × Int))) (fun z : Nat × Nat × Int × Bool × List (Int × Int) × List (Int × Int) => K (Ex.exit 0) (S.PlainParts_x0_0 l len t (z.1) (z.2.1) (z.2.2.1) (z.2.2.2.1) (z.2.2.2.2.1) (z.2.2.2.2.2))) (S.PlainParts_l0 fu l len t n y0 y1 y2 y3 y4)
  | 0, _, _, _, _, _ => rfl
  | n + 1, y0, y1, y2, y3, y4 => (S.PlainParts_l0_k fu l len t n K y0 y1 y2 y3 y4).trans (bif_lift (f := (oK (β := (Nat × Nat × Int × Bool × List (Int × Int) × List (Int × Int))) (fun z : Nat × Nat × Int × Bool × List (Int × Int) × List (Int × Int) => K (Ex.exit 0) (S.PlainParts_x0_0 l len t (z.1) (z.2.1) (z.2.2.1) (z.2.2.2.1) (z.2.2.2.2.1) (z.2.2.2.2.2))))) (bif_lift (f := (oK (β := (Nat × Nat × Int × Bool × List (Int × Int) × List (Int × Int))) (fun z : Nat × Nat × Int × Bool × List (Int × Int) × List (Int × Int) => K (Ex.exit 0) (S.PlainParts_x0_0 l len t (z.1) (z.2.1) (z.2.2.1) (z.2.2.2.1) (z.2.2.2.2.1) (z.2.2.2.2.2))))) (opt_lift fun o4 => (bif_lift (f := (oK (β := (Nat × Nat × Int × Bool × List (Int × Int) × List (Int × Int))) (fun z : Nat × Nat × Int × Bool × List (Int × Int) × List (Int × Int) => K (Ex.exit 0) (S.PlainParts_x0_0 l len t (z.1) (z.2.1) (z.2.2.1) (z.2.2.2.1) (z.2.2.2.2.1) (z.2.2.2.2.2))))) (opt_lift fun o6 => (bif_lift (f := (oK (β := (Nat × Nat × Int × Bool × List (Int × Int) × List (Int × Int))) (fun z : Nat × Nat × Int × Bool × List (Int × Int) × List (Int × Int) => K (Ex.exit 0) (S.PlainParts_x0_0 l len t (z.1) (z.2.1) (z.2.2.1) (z.2.2.2.1) (z.2.2.2.2.1) (z.2.2.2.2.2))))) (bif_lift (f := (oK (β := (Nat × Nat × Int × Bool × List (Int × Int) × List (Int × Int))) (fun z : Nat × Nat × Int × Bool × List (Int × Int) × List (Int × Int) => K (Ex.exit 0) (S.PlainParts_x0_0 l len t (z.1) (z.2.1) (z.2.2.1) (z.2.2.2.1) (z.2.2.2.2.1) (z.2.2.2.2.2))))) (S.PlainParts_l0_v fu l len t K n (List.length (cutL y3 0 y0 ++ cutL [(Go.IntKind.wrap .i64 (Int.tmod (Go.IntKind.wrap .u64 (Prod.fst o4)) 50), Go.IntKind.wrap .i64 (Int.tmod (Go.IntKind.wrap .u64 (Prod.snd o6)) 1000))] 0 1)) (List.length (cutL y4 0 y1 ++ cutL [(Go.IntKind.wrap .i64 (Int.tmod (Go.IntKind.wrap .u64 (Prod.fst o4)) 50), Go.IntKind.wrap .i64 (Int.tmod (Go.IntKind.wrap .u64 (Prod.snd o6)) 1000)), (-1, 5), (3, -5), (1099511627777, 5)] 0 4)) (Go.IntKind.wrap .i64 (y2 + 1)) (cutL y3 0 y0 ++ cutL [(Go.IntKind.wrap .i64 (Int.tmod (Go.IntKind.wrap .u64 (Prod.fst o4)) 50), Go.IntKind.wrap .i64 (Int.tmod (Go.IntKind.wrap .u64 (Prod.snd o6)) 1000))] 0 1) (cutL y4 0 y1 ++ cutL [(Go.IntKind.wrap .i64 (Int.tmod (Go.IntKind.wrap .u64 (Prod.fst o4)) 50), Go.IntKind.wrap .i64 (Int.tmod (Go.IntKind.wrap .u64 (Prod.snd o6)) 1000)), (-1, 5), (3, -5), (1099511627777, 5)] 0 4)) rfl) rfl)) rfl)) rfl) rfl)
theorem S.PlainParts_a0_0_k {R : Type} (fu : Nat) (l : RL) (len : Nat) (t : Int) (z0 : Nat) (z1 : Nat) (z2 : Int) (z3 : Bool) (z4 : List (Int × Int)) (z5 : List (Int × Int)) (k : AVal → List Blk → Option R) : contOf (C_PlainParts fu l len t) G18s (bodyOf Try.f5) [1, 1, 1, 0, 1, 0] (retK tis F5 Try.f5 (List.length ([.rows (.pair (.int .i64) (.int .i64)) l true] : List Blk)) k) (Ex.exit 0) (S.PlainParts_x0_0 l len t (z0) (z1) (z2) (z3) (z4) (z5)) =
  ((optK (S.q_psum 100000 z4 0 z0 false 10 1 (Go.IntKind.wrap .i64 (Int.tmod (Go.IntKind.wrap .u64 t) 60))) fun o2 =>
    (optK (S.q_psum 100000 z5 0 z1 false 10 1 (Go.IntKind.wrap .i64 (Int.tmod (Go.IntKind.wrap .u64 t) 60))) fun o3 =>
      (optK (S.q_pnewest 100000 (Prod.snd (Prod.snd o2)) 0 z0 false) fun o4 =>
        loopRun (C_PlainParts fu l len t) G18s S.PlainParts_b1 fu (S.PlainParts_s1 l len t (z0) (z1) (Prod.fst o2) (Prod.fst (Prod.snd o2)) (Prod.fst o3) (Prod.fst (Prod.snd o3)) (Prod.fst o4) (0) (0) (Prod.snd o4) (Prod.snd (Prod.snd o3))) (contOf (C_PlainParts fu l len t) G18s (bodyOf Try.f5) [1, 1, 1, 1, 1, 1, 1, 1, 1, 0, 1, 0] (retK tis F5 Try.f5 (List.length ([.rows (.pair (.int .i64) (.int .i64)) l true] : List Blk)) k)))))) := by kernel_rfl
noncomputable def S.PlainParts_a0_0 (fu : Nat) (l : RL) (len : Nat) (t : Int) (z0 : Nat) (z1 : Nat) (z2 : Int) (z3 : Bool) (z4 : List (Int × Int)) (z5 : List (Int × Int)) : Option (Bool) :=
  (optK (S.q_psum 100000 z4 0 z0 false 10 1 (Go.IntKind.wrap .i64 (Int.tmod (Go.IntKind.wrap .u64 t) 60))) fun o2 =>
    (optK (S.q_psum 100000 z5 0 z1 false 10 1 (Go.IntKind.wrap .i64 (Int.tmod (Go.IntKind.wrap .u64 t) 60))) fun o3 =>
      (optK (S.q_pnewest 100000 (Prod.snd (Prod.snd o2)) 0 z0 false) fun o4 =>
        optK (S.PlainParts_l1 fu l len t fu (z0) (z1) (Prod.fst o2) (Prod.fst (Prod.snd o2)) (Prod.fst o3) (Prod.fst (Prod.snd o3)) (Prod.fst o4) (0) (0) (Prod.snd o4) (Prod.snd (Prod.snd o3))) (fun z : Nat × Nat × Int × Int × Int × Int × Int × Int × Int × Bool × List (Int × Int) × List (Int × Int) => S.PlainParts_a1_0 fu l len t (z.1) (z.2.1) (z.2.2.1) (z.2.2.2.1) (z.2.2.2.2.1) (z.2.2.2.2.2.1) (z.2.2.2.2.2.2.1) (z.2.2.2.2.2.2.2.1) (z.2.2.2.2.2.2.2.2.1) (z.2.2.2.2.2.2.2.2.2.1) (z.2.2.2.2.2.2.2.2.2.2.1) (z.2.2.2.2.2.2.2.2.2.2.2)))))
theorem S.PlainParts_a0_0_v {R : Type} (fu : Nat) (l : RL) (len : Nat) (t : Int) (z0 : Nat) (z1 : Nat) (z2 : Int) (z3 : Bool) (z4 : List (Int × Int)) (z5 : List (Int × Int)) (k : AVal → List Blk → Option R) : contOf (C_PlainParts fu l len t) G18s (bodyOf Try.f5) [1, 1, 1, 0, 1, 0] (retK tis F5 Try.f5 (List.length ([.rows (.pair (.int .i64) (.int .i64)) l true] : List Blk)) k) (Ex.exit 0) (S.PlainParts_x0_0 l len t (z0) (z1) (z2) (z3) (z4) (z5)) = oK (fun v : Bool => k (.bool v) [(.rows (Cd.pair (Cd.int .i64) (Cd.int .i64)) l true)]) (S.PlainParts_a0_0 fu l len t z0 z1 z2 z3 z4 z5) :=
  (S.PlainParts_a0_0_k fu l len t z0 z1 z2 z3 z4 z5 k).trans (opt_lift fun o2 => (opt_lift fun o3 => (opt_lift fun o4 => (arr_lift (S.PlainParts_l1_v fu l len t (contOf (C_PlainParts fu l len t) G18s (bodyOf Try.f5) [1, 1, 1, 1, 1, 1, 1, 1, 1, 0, 1, 0] (retK tis F5 Try.f5 (List.length ([.rows (.pair (.int .i64) (.int .i64)) l true] : List Blk)) k)) fu (z0) (z1) (Prod.fst o2) (Prod.fst (Prod.snd o2)) (Prod.fst o3) (Prod.fst (Prod.snd o3)) (Prod.fst o4) (0) (0) (Prod.snd o4) (Prod.snd (Prod.snd o3))) ((fun z => S.PlainParts_a1_0_v fu l len t (z.1) (z.2.1) (z.2.2.1) (z.2.2.2.1) (z.2.2.2.2.1) (z.2.2.2.2.2.1) (z.2.2.2.2.2.2.1) (z.2.2.2.2.2.2.2.1) (z.2.2.2.2.2.2.2.2.1) (z.2.2.2.2.2.2.2.2.2.1) (z.2.2.2.2.2.2.2.2.2.2.1) (z.2.2.2.2.2.2.2.2.2.2.2) k))))))
theorem S.PlainParts_k {R : Type} (fu : Nat) (l : RL) (len : Nat) (t : Int) (k : AVal → List Blk → Option R) : fnEval tis F5 fu G18s Try.f5 [.slice 2 0 0 len none, .int .i64 t] [.rows (.pair (.int .i64) (.int .i64)) l true] k =
  (bif decide (30 < ((len : Nat) : Int)) then
    k (.bool true) ([.rows (Cd.pair (Cd.int .i64) (Cd.int .i64)) l true])
  else
    loopRun (C_PlainParts fu l len t) G18s S.PlainParts_b0 fu (S.PlainParts_s0 l len t (0) (0) (0) ([]) ([])) (contOf (C_PlainParts fu l len t) G18s (bodyOf Try.f5) [1, 1, 1, 0, 1, 0] (retK tis F5 Try.f5 (List.length ([.rows (.pair (.int .i64) (.int .i64)) l true] : List Blk)) k))) := by kernel_rfl
noncomputable def S.PlainParts (fu : Nat) (l : RL) (len : Nat) (t : Int) : Option (Bool) :=
  bif decide (30 < ((len : Nat) : Int)) then
    some (true)
  else
    optK (S.PlainParts_l0 fu l len t fu (0) (0) (0) ([]) ([])) (fun z : Nat × Nat × Int × Bool × List (Int × Int) × List (Int × Int) => S.PlainParts_a0_0 fu l len t (z.1) (z.2.1) (z.2.2.1) (z.2.2.2.1) (z.2.2.2.2.1) (z.2.2.2.2.2))
theorem S.PlainParts_v {R : Type} (fu : Nat) (l : RL) (len : Nat) (t : Int) (k : AVal → List Blk → Option R) : fnEval tis F5 fu G18s Try.f5 [.slice 2 0 0 len none, .int .i64 t] [.rows (.pair (.int .i64) (.int .i64)) l true] k = oK (fun v : Bool => k (.bool v) [(.rows (Cd.pair (Cd.int .i64) (Cd.int .i64)) l true)]) (S.PlainParts fu l len t) :=
  (S.PlainParts_k fu l len t k).trans (bif_lift (f := (oK (fun v : Bool => k (.bool v) [(.rows (Cd.pair (Cd.int .i64) (Cd.int .i64)) l true)]))) rfl (arr_lift (S.PlainParts_l0_v fu l len t (contOf (C_PlainParts fu l len t) G18s (bodyOf Try.f5) [1, 1, 1, 0, 1, 0] (retK tis F5 Try.f5 (List.length ([.rows (.pair (.int .i64) (.int .i64)) l true] : List Blk)) k)) fu (0) (0) (0) ([]) ([])) ((fun z => S.PlainParts_a0_0_v fu l len t (z.1) (z.2.1) (z.2.2.1) (z.2.2.2.1) (z.2.2.2.2.1) (z.2.2.2.2.2) k))))
noncomputable def H5 : Hnd := fun R args σ k => match args, σ with
  | [.slice 2 0 0 len none, .int .i64 t], [.rows (.pair (.int .i64) (.int .i64)) l true] => oK (fun v : Bool => k (.bool v) [(.rows (Cd.pair (Cd.int .i64) (Cd.int .i64)) l true)]) (S.PlainParts 100000 l len t)
  | _, _ => none
theorem H5_ok : HndOk Try.prog 5 H5 := hnd_ok tis tisOk mixOk G18s_ok F5 Try.func5 rfl (by
  intro R args σ k r h
  unfold H5 at h
  split at h
  · rename_i len t l; exact ⟨100000, (S.PlainParts_v 100000 l len t _).trans h⟩
  · cases h)
noncomputable def G5 : Env := Env.add 5 H5 G18s
theorem G5_ok : EnvOk Try.prog G5 := envAdd_ok H5_ok G18s_ok
end Go.Proofs.Ytfoaihjkmfhaoaa.AB
