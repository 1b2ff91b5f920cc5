/- DelayHolds, as a plain function. -/
import Derived.Test.YtfoaihjkmfhaoaaSdelay
namespace Go.Proofs.Ytfoaihjkmfhaoaa.AB
set_option linter.unusedVariables false

/-! spinnakerlaw15.DelayHolds -/
def F9 : FCfg := ⟨keepAt [(0, [0, 1]), (1, [1, 5]), (2, [1, 5, 6]), (3, [1, 5, 6, 18]), (4, [4]), (5, [1, 5, 6, 7]), (6, [1, 5, 6, 7, 8]), (7, [1, 5, 6, 7, 8, 26]), (8, [1, 5, 6, 7, 8]), (9, [1, 5, 6, 7, 8]), (10, [1, 5, 6, 7, 8, 46]), (11, [4]), (12, [1, 5, 6, 7, 8, 9]), (13, [1, 5, 6, 7, 8, 9, 10]), (14, [1, 5, 6, 7, 8, 9, 10, 58]), (15, [1, 5, 6, 7, 8, 9, 10]), (16, [1, 5, 6, 7, 8, 9, 10]), (17, [1, 5, 6, 7, 8, 71]), (18, [4]), (19, [4])], loopAt [(7, [1, 5, 6, 7, 8], [⟨true, 7, 0, .int .i64⟩, ⟨false, 1, 0, (.box 92 (.pair (.int .i64) (.int .i64)))⟩]), (14, [1, 5, 6, 7, 8, 9, 10], [])], []⟩
noncomputable def C_DelayHolds (fu : Nat) (sp : Int) (l : List Int) (len : Nat) : Cfg := Cfg.of tis F9 fu (List.length ([.rows (.int .i64) l true] : List Blk)) Try.f9.ntmps
noncomputable def S.DelayHolds_b0 : Code := codeAt (bodyOf Try.f9) [1, 1, 1, 1, 1, 0, 1, 0, 0]
noncomputable def S.DelayHolds_b1 : Code := codeAt S.DelayHolds_b0 [1, 0, 0, 1, 1, 1, 0, 1, 0, 0]
noncomputable def S.DelayHolds_s0 (sp : Int) (l : List Int) (len : Nat) (y0 : Nat) (y1 : Int) (y2 : Nat) (y3 : Nat) (y4 : Int) (y5 : Int) (y6 : List (Option (Int × Int))) (y7 : List Int) : St := ⟨[(1, (.slice 1 0 (0) (len) none)), (5, (.int .i64 (Go.IntKind.wrap .i64 (Int.tmod (Go.IntKind.wrap .u64 sp) 61)))), (6, (.ptr 1 (0) 0)), (7, (.slice 1 3 (0) (y0) none)), (8, (.int .i64 (y1)))], [(.rows (Cd.int .i64) l true), (.var [(.slice 1 2 (y2) (y3) none), (.int .i64 (y4)), (.int .i64 (y5))]), (.rows (Cd.box 92 (Cd.pair (Cd.int .i64) (Cd.int .i64))) (y6) false), (.rows (Cd.int .i64) (y7) false)]⟩
noncomputable def S.DelayHolds_x0_0 (sp : Int) (l : List Int) (len : Nat) (z0 : Nat) (z1 : Nat) (z2 : Int) (z3 : Int) (z4 : List (Option (Int × Int))) (z5 : List Int) (z6 : List Int) : St := ⟨[(4, (.bool (false)))], [(.rows (Cd.int .i64) l true), (.var [(.slice 1 2 (z0) (z1) none), (.int .i64 (z2)), (.int .i64 (z3))]), (.rows (Cd.box 92 (Cd.pair (Cd.int .i64) (Cd.int .i64))) (z4) false), .dead, (.rows (Cd.int .i64) (z5) false), (.rows (Cd.int .i64) (z6) false)]⟩
noncomputable def S.DelayHolds_x0_1 (sp : Int) (l : List Int) (len : Nat) (z0 : Nat) (z1 : Int) (z2 : Bool) (z3 : Nat) (z4 : Nat) (z5 : Int) (z6 : Int) (z7 : List (Option (Int × Int))) (z8 : List Int) : St := ⟨[(1, (.slice 1 0 (0) (len) none)), (5, (.int .i64 (Go.IntKind.wrap .i64 (Int.tmod (Go.IntKind.wrap .u64 sp) 61)))), (6, (.ptr 1 (0) 0)), (7, (.slice 1 3 (0) (z0) none)), (8, (.int .i64 (z1))), (26, (.bool (z2)))], [(.rows (Cd.int .i64) l true), (.var [(.slice 1 2 (z3) (z4) none), (.int .i64 (z5)), (.int .i64 (z6))]), (.rows (Cd.box 92 (Cd.pair (Cd.int .i64) (Cd.int .i64))) (z7) false), (.rows (Cd.int .i64) (z8) false)]⟩
noncomputable def S.DelayHolds_x0_2 (sp : Int) (l : List Int) (len : Nat) (z0 : Nat) (z1 : Nat) (z2 : Int) (z3 : Int) (z4 : List (Option (Int × Int))) (z5 : List Int) : St := ⟨[(4, (.bool (false)))], [(.rows (Cd.int .i64) l true), (.var [(.slice 1 2 (z0) (z1) none), (.int .i64 (z2)), (.int .i64 (z3))]), (.rows (Cd.box 92 (Cd.pair (Cd.int .i64) (Cd.int .i64))) (z4) false), (.rows (Cd.int .i64) (z5) false)]⟩
noncomputable def S.DelayHolds_s1 (sp : Int) (l : List Int) (len : Nat) (y0 : Nat) (y1 : Int) (y2 : Int) (y3 : Int) (y4 : Nat) (y5 : Int) (y6 : Int) (y7 : List (Option (Int × Int))) (y8 : List Int) : St := ⟨[(1, (.slice 1 0 (0) (len) none)), (5, (.int .i64 (Go.IntKind.wrap .i64 (Int.tmod (Go.IntKind.wrap .u64 sp) 61)))), (6, (.ptr 1 (0) 0)), (7, (.slice 1 3 (0) (y0) none)), (8, (.int .i64 (y1))), (9, (.int .i64 (y2))), (10, (.int .i64 (y3)))], [(.rows (Cd.int .i64) l true), (.var [(.slice 1 2 (0) (y4) none), (.int .i64 (y5)), (.int .i64 (y6))]), (.rows (Cd.box 92 (Cd.pair (Cd.int .i64) (Cd.int .i64))) (y7) false), (.rows (Cd.int .i64) (y8) false)]⟩
noncomputable def S.DelayHolds_x1_0 (sp : Int) (l : List Int) (len : Nat) (z0 : Nat) (z1 : Int) (z2 : Int) (z3 : Int) (z4 : Bool) (z5 : Nat) (z6 : Int) (z7 : Int) (z8 : List (Option (Int × Int))) (z9 : List Int) : St := ⟨[(1, (.slice 1 0 (0) (len) none)), (5, (.int .i64 (Go.IntKind.wrap .i64 (Int.tmod (Go.IntKind.wrap .u64 sp) 61)))), (6, (.ptr 1 (0) 0)), (7, (.slice 1 3 (0) (z0) none)), (8, (.int .i64 (z1))), (9, (.int .i64 (z2))), (10, (.int .i64 (z3))), (58, (.bool (z4)))], [(.rows (Cd.int .i64) l true), (.var [(.slice 1 2 (0) (z5) none), (.int .i64 (z6)), (.int .i64 (z7))]), (.rows (Cd.box 92 (Cd.pair (Cd.int .i64) (Cd.int .i64))) (z8) false), (.rows (Cd.int .i64) (z9) false)]⟩
theorem S.DelayHolds_l1_k {R : Type} (fu : Nat) (sp : Int) (l : List Int) (len : Nat) (n : Nat) (K : Ex → St → Option R) (y0 : Nat) (y1 : Int) (y2 : Int) (y3 : Int) (y4 : Nat) (y5 : Int) (y6 : Int) (y7 : List (Option (Int × Int))) (y8 : List Int) : loopRun (C_DelayHolds fu sp l len) G31 S.DelayHolds_b1 (n + 1) (S.DelayHolds_s1 sp l len (y0) (y1) (y2) (y3) (y4) (y5) (y6) (y7) (y8)) K =
  (bif decide (y3 < y1) then
    bif inB y3 y0 then
      (optK (y8[Int.toNat y3 + 0]?) fun o4 =>
        loopRun (C_DelayHolds fu sp l len) G31 S.DelayHolds_b1 n (S.DelayHolds_s1 sp l len (y0) (y1) (if o4 > y2 then o4 else y2) (Go.IntKind.wrap .i64 (y3 + 1)) (y4) (y5) (y6) (y7) (y8)) K)
    else
      none
  else
    K (Ex.exit 2) (S.DelayHolds_x1_0 sp l len (y0) (y1) (y2) (y3) (decide (y3 < y1)) (y4) (y5) (y6) (y7) (y8))) := by kernel_rfl
def S.DelayHolds_l1 (fu : Nat) (sp : Int) (l : List Int) (len : Nat) : Nat → (Nat) → (Int) → (Int) → (Int) → (Nat) → (Int) → (Int) → (List (Option (Int × Int))) → (List Int) → Option ((Nat × Int × Int × Int × Bool × Nat × Int × Int × List (Option (Int × Int)) × List Int))
  | 0, _, _, _, _, _, _, _, _, _ => none
  | n + 1, y0, y1, y2, y3, y4, y5, y6, y7, y8 =>
    bif decide (y3 < y1) then
      bif inB y3 y0 then
        (optK (y8[Int.toNat y3 + 0]?) fun o4 =>
          (S.DelayHolds_l1 fu sp l len n) (y0) (y1) (if o4 > y2 then o4 else y2) (Go.IntKind.wrap .i64 (y3 + 1)) (y4) (y5) (y6) (y7) (y8))
      else
        none
    else
      some (y0, y1, y2, y3, decide (y3 < y1), y4, y5, y6, y7, y8)
theorem S.DelayHolds_l1_v {R : Type} (fu : Nat) (sp : Int) (l : List Int) (len : Nat) (K : Ex → St → Option R) : ∀ (n : Nat) (y0 : Nat) (y1 : Int) (y2 : Int) (y3 : Int) (y4 : Nat) (y5 : Int) (y6 : Int) (y7 : List (Option (Int × Int))) (y8 : List Int), loopRun (C_DelayHolds fu sp l len) G31 S.DelayHolds_b1 n (S.DelayHolds_s1 sp l len (y0) (y1) (y2) (y3) (y4) (y5) (y6) (y7) (y8)) K = oK (β := (Nat × Int × Int × Int × Bool × Nat × Int × Int × List (Option (Int × Int)) × List Int)) (fun z : Nat × Int × Int × Int × Bool × Nat × Int × Int × List (Option (Int × Int)) × List Int => K (Ex.exit 2) (S.DelayHolds_x1_0 sp l len (z.1) (z.2.1) (z.2.2.1) (z.2.2.2.1) (z.2.2.2.2.1) (z.2.2.2.2.2.1) (z.2.2.2.2.2.2.1) (z.2.2.2.2.2.2.2.1) (z.2.2.2.2.2.2.2.2.1) (z.2.2.2.2.2.2.2.2.2))) (S.DelayHolds_l1 fu sp l len n y0 y1 y2 y3 y4 y5 y6 y7 y8)
  | 0, _, _, _, _, _, _, _, _, _ => rfl
  | n + 1, y0, y1, y2, y3, y4, y5, y6, y7, y8 => (S.DelayHolds_l1_k fu sp l len n K y0 y1 y2 y3 y4 y5 y6 y7 y8).trans (bif_lift (f := (oK (β := (Nat × Int × Int × Int × Bool × Nat × Int × Int × List (Option (Int × Int)) × List Int)) (fun z : Nat × Int × Int × Int × Bool × Nat × Int × Int × List (Option (Int × Int)) × List Int => K (Ex.exit 2) (S.DelayHolds_x1_0 sp l len (z.1) (z.2.1) (z.2.2.1) (z.2.2.2.1) (z.2.2.2.2.1) (z.2.2.2.2.2.1) (z.2.2.2.2.2.2.1) (z.2.2.2.2.2.2.2.1) (z.2.2.2.2.2.2.2.2.1) (z.2.2.2.2.2.2.2.2.2))))) (bif_lift (f := (oK (β := (Nat × Int × Int × Int × Bool × Nat × Int × Int × List (Option (Int × Int)) × List Int)) (fun z : Nat × Int × Int × Int × Bool × Nat × Int × Int × List (Option (Int × Int)) × List Int => K (Ex.exit 2) (S.DelayHolds_x1_0 sp l len (z.1) (z.2.1) (z.2.2.1) (z.2.2.2.1) (z.2.2.2.2.1) (z.2.2.2.2.2.1) (z.2.2.2.2.2.2.1) (z.2.2.2.2.2.2.2.1) (z.2.2.2.2.2.2.2.2.1) (z.2.2.2.2.2.2.2.2.2))))) (opt_lift fun o4 => (S.DelayHolds_l1_v fu sp l len K n (y0) (y1) (if o4 > y2 then o4 else y2) (Go.IntKind.wrap .i64 (y3 + 1)) (y4) (y5) (y6) (y7) (y8))) rfl) rfl)
theorem S.DelayHolds_a1_0_k {R : Type} (fu : Nat) (sp : Int) (l : List Int) (len : Nat) (n : Nat) (K : Ex → St → Option R) (z0 : Nat) (z1 : Int) (z2 : Int) (z3 : Int) (z4 : Bool) (z5 : Nat) (z6 : Int) (z7 : Int) (z8 : List (Option (Int × Int))) (z9 : List Int) : contOf (C_DelayHolds fu sp l len) G31 S.DelayHolds_b0 [1, 0, 0, 1, 1, 1, 0, 1, 0] (loopCont (C_DelayHolds fu sp l len) G31 S.DelayHolds_b0 n K) (Ex.exit 2) (S.DelayHolds_x1_0 sp l len (z0) (z1) (z2) (z3) (z4) (z5) (z6) (z7) (z8) (z9)) =
  ((optK (S.dmost 100000 z8 0 z5 z6 z7 z1) fun o2 =>
    bif !decide (Prod.fst o2 = z2) then
      K (Ex.ret) (S.DelayHolds_x0_2 sp l len (Prod.fst (Prod.snd o2)) (Prod.fst (Prod.snd (Prod.snd o2))) (Prod.fst (Prod.snd (Prod.snd (Prod.snd o2)))) (Prod.fst (Prod.snd (Prod.snd (Prod.snd (Prod.snd o2))))) (Prod.snd (Prod.snd (Prod.snd (Prod.snd (Prod.snd o2))))) (z9))
    else
      loopRun (C_DelayHolds fu sp l len) G31 S.DelayHolds_b0 n (S.DelayHolds_s0 sp l len (z0) (Go.IntKind.wrap .i64 (z1 + 1)) (Prod.fst (Prod.snd o2)) (Prod.fst (Prod.snd (Prod.snd o2))) (Prod.fst (Prod.snd (Prod.snd (Prod.snd o2)))) (Prod.fst (Prod.snd (Prod.snd (Prod.snd (Prod.snd o2))))) (Prod.snd (Prod.snd (Prod.snd (Prod.snd (Prod.snd o2))))) (z9)) K)) := by kernel_rfl
def S.DelayHolds_a1_0 (fu : Nat) (sp : Int) (l : List Int) (len : Nat) (next : (Nat) → (Int) → (Nat) → (Nat) → (Int) → (Int) → (List (Option (Int × Int))) → (List Int) → Option ((Nat × Nat × Int × Int × List (Option (Int × Int)) × List Int × List Int) ⊕ (Nat × Int × Bool × Nat × Nat × Int × Int × List (Option (Int × Int)) × List Int) ⊕ (Nat × Nat × Int × Int × List (Option (Int × Int)) × List Int))) (z0 : Nat) (z1 : Int) (z2 : Int) (z3 : Int) (z4 : Bool) (z5 : Nat) (z6 : Int) (z7 : Int) (z8 : List (Option (Int × Int))) (z9 : List Int) : Option ((Nat × Nat × Int × Int × List (Option (Int × Int)) × List Int × List Int) ⊕ (Nat × Int × Bool × Nat × Nat × Int × Int × List (Option (Int × Int)) × List Int) ⊕ (Nat × Nat × Int × Int × List (Option (Int × Int)) × List Int)) :=
  (optK (S.dmost 100000 z8 0 z5 z6 z7 z1) fun o2 =>
    bif !decide (Prod.fst o2 = z2) then
      some (.inr (.inr (Prod.fst (Prod.snd o2), Prod.fst (Prod.snd (Prod.snd o2)), Prod.fst (Prod.snd (Prod.snd (Prod.snd o2))), Prod.fst (Prod.snd (Prod.snd (Prod.snd (Prod.snd o2)))), Prod.snd (Prod.snd (Prod.snd (Prod.snd (Prod.snd o2)))), z9)))
    else
      next (z0) (Go.IntKind.wrap .i64 (z1 + 1)) (Prod.fst (Prod.snd o2)) (Prod.fst (Prod.snd (Prod.snd o2))) (Prod.fst (Prod.snd (Prod.snd (Prod.snd o2)))) (Prod.fst (Prod.snd (Prod.snd (Prod.snd (Prod.snd o2))))) (Prod.snd (Prod.snd (Prod.snd (Prod.snd (Prod.snd o2))))) (z9))
theorem S.DelayHolds_a1_0_v {R : Type} (fu : Nat) (sp : Int) (l : List Int) (len : Nat) (n : Nat) (K : Ex → St → Option R) (next : (Nat) → (Int) → (Nat) → (Nat) → (Int) → (Int) → (List (Option (Int × Int))) → (List Int) → Option ((Nat × Nat × Int × Int × List (Option (Int × Int)) × List Int × List Int) ⊕ (Nat × Int × Bool × Nat × Nat × Int × Int × List (Option (Int × Int)) × List Int) ⊕ (Nat × Nat × Int × Int × List (Option (Int × Int)) × List Int))) (z0 : Nat) (z1 : Int) (z2 : Int) (z3 : Int) (z4 : Bool) (z5 : Nat) (z6 : Int) (z7 : Int) (z8 : List (Option (Int × Int))) (z9 : List Int) (hn : ∀ (y0 : Nat) (y1 : Int) (y2 : Nat) (y3 : Nat) (y4 : Int) (y5 : Int) (y6 : List (Option (Int × Int))) (y7 : List Int), loopRun (C_DelayHolds fu sp l len) G31 S.DelayHolds_b0 n (S.DelayHolds_s0 sp l len (y0) (y1) (y2) (y3) (y4) (y5) (y6) (y7)) K = oK (β := (Nat × Nat × Int × Int × List (Option (Int × Int)) × List Int × List Int) ⊕ (Nat × Int × Bool × Nat × Nat × Int × Int × List (Option (Int × Int)) × List Int) ⊕ (Nat × Nat × Int × Int × List (Option (Int × Int)) × List Int)) (Sum.elim (fun z : Nat × Nat × Int × Int × List (Option (Int × Int)) × List Int × List Int => K (Ex.ret) (S.DelayHolds_x0_0 sp l len (z.1) (z.2.1) (z.2.2.1) (z.2.2.2.1) (z.2.2.2.2.1) (z.2.2.2.2.2.1) (z.2.2.2.2.2.2))) (Sum.elim (fun z : Nat × Int × Bool × Nat × Nat × Int × Int × List (Option (Int × Int)) × List Int => K (Ex.exit 0) (S.DelayHolds_x0_1 sp l len (z.1) (z.2.1) (z.2.2.1) (z.2.2.2.1) (z.2.2.2.2.1) (z.2.2.2.2.2.1) (z.2.2.2.2.2.2.1) (z.2.2.2.2.2.2.2.1) (z.2.2.2.2.2.2.2.2))) (fun z : Nat × Nat × Int × Int × List (Option (Int × Int)) × List Int => K (Ex.ret) (S.DelayHolds_x0_2 sp l len (z.1) (z.2.1) (z.2.2.1) (z.2.2.2.1) (z.2.2.2.2.1) (z.2.2.2.2.2))))) (next y0 y1 y2 y3 y4 y5 y6 y7)) : contOf (C_DelayHolds fu sp l len) G31 S.DelayHolds_b0 [1, 0, 0, 1, 1, 1, 0, 1, 0] (loopCont (C_DelayHolds fu sp l len) G31 S.DelayHolds_b0 n K) (Ex.exit 2) (S.DelayHolds_x1_0 sp l len (z0) (z1) (z2) (z3) (z4) (z5) (z6) (z7) (z8) (z9)) = oK (β := (Nat × Nat × Int × Int × List (Option (Int × Int)) × List Int × List Int) ⊕ (Nat × Int × Bool × Nat × Nat × Int × Int × List (Option (Int × Int)) × List Int) ⊕ (Nat × Nat × Int × Int × List (Option (Int × Int)) × List Int)) (Sum.elim (fun z : Nat × Nat × Int × Int × List (Option (Int × Int)) × List Int × List Int => K (Ex.ret) (S.DelayHolds_x0_0 sp l len (z.1) (z.2.1) (z.2.2.1) (z.2.2.2.1) (z.2.2.2.2.1) (z.2.2.2.2.2.1) (z.2.2.2.2.2.2))) (Sum.elim (fun z : Nat × Int × Bool × Nat × Nat × Int × Int × List (Option (Int × Int)) × List Int => K (Ex.exit 0) (S.DelayHolds_x0_1 sp l len (z.1) (z.2.1) (z.2.2.1) (z.2.2.2.1) (z.2.2.2.2.1) (z.2.2.2.2.2.1) (z.2.2.2.2.2.2.1) (z.2.2.2.2.2.2.2.1) (z.2.2.2.2.2.2.2.2))) (fun z : Nat × Nat × Int × Int × List (Option (Int × Int)) × List Int => K (Ex.ret) (S.DelayHolds_x0_2 sp l len (z.1) (z.2.1) (z.2.2.1) (z.2.2.2.1) (z.2.2.2.2.1) (z.2.2.2.2.2))))) (S.DelayHolds_a1_0 fu sp l len next z0 z1 z2 z3 z4 z5 z6 z7 z8 z9) :=
  (S.DelayHolds_a1_0_k fu sp l len n K z0 z1 z2 z3 z4 z5 z6 z7 z8 z9).trans (opt_lift fun o2 => (bif_lift (f := (oK (β := (Nat × Nat × Int × Int × List (Option (Int × Int)) × List Int × List Int) ⊕ (Nat × Int × Bool × Nat × Nat × Int × Int × List (Option (Int × Int)) × List Int) ⊕ (Nat × Nat × Int × Int × List (Option (Int × Int)) × List Int)) (Sum.elim (fun z : Nat × Nat × Int × Int × List (Option (Int × Int)) × List Int × List Int => K (Ex.ret) (S.DelayHolds_x0_0 sp l len (z.1) (z.2.1) (z.2.2.1) (z.2.2.2.1) (z.2.2.2.2.1) (z.2.2.2.2.2.1) (z.2.2.2.2.2.2))) (Sum.elim (fun z : Nat × Int × Bool × Nat × Nat × Int × Int × List (Option (Int × Int)) × List Int => K (Ex.exit 0) (S.DelayHolds_x0_1 sp l len (z.1) (z.2.1) (z.2.2.1) (z.2.2.2.1) (z.2.2.2.2.1) (z.2.2.2.2.2.1) (z.2.2.2.2.2.2.1) (z.2.2.2.2.2.2.2.1) (z.2.2.2.2.2.2.2.2))) (fun z : Nat × Nat × Int × Int × List (Option (Int × Int)) × List Int => K (Ex.ret) (S.DelayHolds_x0_2 sp l len (z.1) (z.2.1) (z.2.2.1) (z.2.2.2.1) (z.2.2.2.2.1) (z.2.2.2.2.2))))))) rfl (hn (z0) (Go.IntKind.wrap .i64 (z1 + 1)) (Prod.fst (Prod.snd o2)) (Prod.fst (Prod.snd (Prod.snd o2))) (Prod.fst (Prod.snd (Prod.snd (Prod.snd o2)))) (Prod.fst (Prod.snd (Prod.snd (Prod.snd (Prod.snd o2))))) (Prod.snd (Prod.snd (Prod.snd (Prod.snd (Prod.snd o2))))) (z9))))
theorem S.DelayHolds_l0_k {R : Type} (fu : Nat) (sp : Int) (l : List Int) (len : Nat) (n : Nat) (K : Ex → St → Option R) (y0 : Nat) (y1 : Int) (y2 : Nat) (y3 : Nat) (y4 : Int) (y5 : Int) (y6 : List (Option (Int × Int))) (y7 : List Int) : loopRun (C_DelayHolds fu sp l len) G31 S.DelayHolds_b0 (n + 1) (S.DelayHolds_s0 sp l len (y0) (y1) (y2) (y3) (y4) (y5) (y6) (y7)) K =
  (bif decide (y1 < ((len : Nat) : Int)) then
    bif decide (y1 < 150) then
      bif inB y1 len then
        (optK (l[Int.toNat y1 + 0]?) fun o5 =>
          bif Nat.beq 1 1 && Nat.blt 0 8 && Nat.beq 1 1 && Nat.beq 1 1 && Nat.beq 1 1 && Nat.blt 0 1 && !Nat.beq 3 4 && Nat.ble ((y0 + 1) * 8) 35184372088832 then
            bif inB y1 (List.length (cutL y7 0 y0 ++ cutL [Go.IntKind.wrap .i64 (Int.tmod (Go.IntKind.wrap .u64 o5) 1000)] 0 1)) then
              (optK ((cutL y7 0 y0 ++ cutL [Go.IntKind.wrap .i64 (Int.tmod (Go.IntKind.wrap .u64 o5) 1000)] 0 1)[Int.toNat y1 + 0]?) fun o8 =>
                (optK (S.dput y6 y2 y3 y4 y5 y1 o8) fun o9 =>
                  (Sum.elim (fun o10 : Nat × Nat × Int × Int × List (Option (Int × Int)) =>
    K (Ex.ret) (S.DelayHolds_x0_0 sp l len (Prod.fst o10) (Prod.fst (Prod.snd o10)) (Prod.fst (Prod.snd (Prod.snd o10))) (Prod.fst (Prod.snd (Prod.snd (Prod.snd o10)))) (Prod.snd (Prod.snd (Prod.snd (Prod.snd o10)))) ([Go.IntKind.wrap .i64 (Int.tmod (Go.IntKind.wrap .u64 o5) 1000)]) (cutL y7 0 y0 ++ cutL [Go.IntKind.wrap .i64 (Int.tmod (Go.IntKind.wrap .u64 o5) 1000)] 0 1))) (fun o10 : Nat × Int × Int × List (Option (Int × Int)) =>
    bif inB y1 (List.length (cutL y7 0 y0 ++ cutL [Go.IntKind.wrap .i64 (Int.tmod (Go.IntKind.wrap .u64 o5) 1000)] 0 1)) then
                      (optK ((cutL y7 0 y0 ++ cutL [Go.IntKind.wrap .i64 (Int.tmod (Go.IntKind.wrap .u64 o5) 1000)] 0 1)[Int.toNat y1 + 0]?) fun o12 =>
                        loopRun (C_DelayHolds fu sp l len) G31 S.DelayHolds_b1 fu (S.DelayHolds_s1 sp l len (List.length (cutL y7 0 y0 ++ cutL [Go.IntKind.wrap .i64 (Int.tmod (Go.IntKind.wrap .u64 o5) 1000)] 0 1)) (y1) (o12) (if Go.IntKind.wrap .i64 (Go.IntKind.wrap .i64 (y1 - Go.IntKind.wrap .i64 (Int.tmod (Go.IntKind.wrap .u64 sp) 61)) + 1) > 0 then Go.IntKind.wrap .i64 (Go.IntKind.wrap .i64 (y1 - Go.IntKind.wrap .i64 (Int.tmod (Go.IntKind.wrap .u64 sp) 61)) + 1) else 0) (Prod.fst o10) (Prod.fst (Prod.snd o10)) (Prod.fst (Prod.snd (Prod.snd o10))) (Prod.snd (Prod.snd (Prod.snd o10))) (cutL y7 0 y0 ++ cutL [Go.IntKind.wrap .i64 (Int.tmod (Go.IntKind.wrap .u64 o5) 1000)] 0 1)) (contOf (C_DelayHolds fu sp l len) G31 S.DelayHolds_b0 [1, 0, 0, 1, 1, 1, 0, 1, 0] (loopCont (C_DelayHolds fu sp l len) G31 S.DelayHolds_b0 n K)))
                    else
                      none) (o9))))
            else
              none
          else
            none)
      else
        none
    else
      K (Ex.exit 0) (S.DelayHolds_x0_1 sp l len (y0) (y1) (decide (y1 < 150)) (y2) (y3) (y4) (y5) (y6) (y7))
  else
    K (Ex.exit 0) (S.DelayHolds_x0_1 sp l len (y0) (y1) (false) (y2) (y3) (y4) (y5) (y6) (y7))) := by kernel_rfl
def S.DelayHolds_l0 (fu : Nat) (sp : Int) (l : List Int) (len : Nat) : Nat → (Nat) → (Int) → (Nat) → (Nat) → (Int) → (Int) → (List (Option (Int × Int))) → (List Int) → Option ((Nat × Nat × Int × Int × List (Option (Int × Int)) × List Int × List Int) ⊕ (Nat × Int × Bool × Nat × Nat × Int × Int × List (Option (Int × Int)) × List Int) ⊕ (Nat × Nat × Int × Int × List (Option (Int × Int)) × List Int))
  | 0, _, _, _, _, _, _, _, _ => none
  | n + 1, y0, y1, y2, y3, y4, y5, y6, y7 =>
    bif decide (y1 < ((len : Nat) : Int)) then
      bif decide (y1 < 150) then
        bif inB y1 len then
          (optK (l[Int.toNat y1 + 0]?) fun o5 =>
            bif Nat.beq 1 1 && Nat.blt 0 8 && Nat.beq 1 1 && Nat.beq 1 1 && Nat.beq 1 1 && Nat.blt 0 1 && !Nat.beq 3 4 && Nat.ble ((y0 + 1) * 8) 35184372088832 then
              bif inB y1 (List.length (cutL y7 0 y0 ++ cutL [Go.IntKind.wrap .i64 (Int.tmod (Go.IntKind.wrap .u64 o5) 1000)] 0 1)) then
                (optK ((cutL y7 0 y0 ++ cutL [Go.IntKind.wrap .i64 (Int.tmod (Go.IntKind.wrap .u64 o5) 1000)] 0 1)[Int.toNat y1 + 0]?) fun o8 =>
                  (optK (S.dput y6 y2 y3 y4 y5 y1 o8) fun o9 =>
                    (Sum.elim (fun o10 : Nat × Nat × Int × Int × List (Option (Int × Int)) =>
    some (.inl (Prod.fst o10, Prod.fst (Prod.snd o10), Prod.fst (Prod.snd (Prod.snd o10)), Prod.fst (Prod.snd (Prod.snd (Prod.snd o10))), Prod.snd (Prod.snd (Prod.snd (Prod.snd o10))), [Go.IntKind.wrap .i64 (Int.tmod (Go.IntKind.wrap .u64 o5) 1000)], cutL y7 0 y0 ++ cutL [Go.IntKind.wrap .i64 (Int.tmod (Go.IntKind.wrap .u64 o5) 1000)] 0 1))) (fun o10 : Nat × Int × Int × List (Option (Int × Int)) =>
    bif inB y1 (List.length (cutL y7 0 y0 ++ cutL [Go.IntKind.wrap .i64 (Int.tmod (Go.IntKind.wrap .u64 o5) 1000)] 0 1)) then
                        (optK ((cutL y7 0 y0 ++ cutL [Go.IntKind.wrap .i64 (Int.tmod (Go.IntKind.wrap .u64 o5) 1000)] 0 1)[Int.toNat y1 + 0]?) fun o12 =>
                          optK (S.DelayHolds_l1 fu sp l len fu (List.length (cutL y7 0 y0 ++ cutL [Go.IntKind.wrap .i64 (Int.tmod (Go.IntKind.wrap .u64 o5) 1000)] 0 1)) (y1) (o12) (if Go.IntKind.wrap .i64 (Go.IntKind.wrap .i64 (y1 - Go.IntKind.wrap .i64 (Int.tmod (Go.IntKind.wrap .u64 sp) 61)) + 1) > 0 then Go.IntKind.wrap .i64 (Go.IntKind.wrap .i64 (y1 - Go.IntKind.wrap .i64 (Int.tmod (Go.IntKind.wrap .u64 sp) 61)) + 1) else 0) (Prod.fst o10) (Prod.fst (Prod.snd o10)) (Prod.fst (Prod.snd (Prod.snd o10))) (Prod.snd (Prod.snd (Prod.snd o10))) (cutL y7 0 y0 ++ cutL [Go.IntKind.wrap .i64 (Int.tmod (Go.IntKind.wrap .u64 o5) 1000)] 0 1)) (fun z : Nat × Int × Int × Int × Bool × Nat × Int × Int × List (Option (Int × Int)) × List Int => S.DelayHolds_a1_0 fu sp l len ((S.DelayHolds_l0 fu sp l len n)) (z.1) (z.2.1) (z.2.2.1) (z.2.2.2.1) (z.2.2.2.2.1) (z.2.2.2.2.2.1) (z.2.2.2.2.2.2.1) (z.2.2.2.2.2.2.2.1) (z.2.2.2.2.2.2.2.2.1) (z.2.2.2.2.2.2.2.2.2)))
                      else
                        none) (o9))))
              else
                none
            else
              none)
        else
          none
      else
        some (.inr (.inl (y0, y1, decide (y1 < 150), y2, y3, y4, y5, y6, y7)))
    else
      some (.inr (.inl (y0, y1, false, y2, y3, y4, y5, y6, y7)))
theorem S.DelayHolds_l0_v {R : Type} (fu : Nat) (sp : Int) (l : List Int) (len : Nat) (K : Ex → St → Option R) : ∀ (n : Nat) (y0 : Nat) (y1 : Int) (y2 : Nat) (y3 : Nat) (y4 : Int) (y5 : Int) (y6 : List (Option (Int × Int))) (y7 : List Int), loopRun (C_DelayHolds fu sp l len) G31 S.DelayHolds_b0 n (S.DelayHolds_s0 sp l len (y0) (y1) (y2) (y3) (y4) (y5) (y6) (y7)) K = oK (β := (Nat × Nat × Int × Int × List (Option (Int × Int)) × List Int × List Int) ⊕ (Nat × Int × Bool × Nat × Nat × Int × Int × List (Option (Int × Int)) × List Int) ⊕ (Nat × Nat × Int × Int × List (Option (Int × Int)) × List Int)) (Sum.elim (fun z : Nat × Nat × Int × Int × List (Option (Int × Int)) × List Int × List Int => K (Ex.ret) (S.DelayHolds_x0_0 sp l len (z.1) (z.2.1) (z.2.2.1) (z.2.2.2.1) (z.2.2.2.2.1) (z.2.2.2.2.2.1) (z.2.2.2.2.2.2))) (Sum.elim (fun z : Nat × Int × Bool × Nat × Nat × Int × Int × List (Option (Int × Int)) × List Int => K (Ex.exit 0) (S.DelayHolds_x0_1 sp l len (z.1) (z.2.1) (z.2.2.1) (z.2.2.2.1) (z.2.2.2.2.1) (z.2.2.2.2.2.1) (z.2.2.2.2.2.2.1) (z.2.2.2.2.2.2.2.1) (z.2.2.2.2.2.2.2.2))) (fun z : Nat × Nat × Int × Int × List (Option (Int × Int)) × List Int => K (Ex.ret) (S.DelayHolds_x0_2 sp l len (z.1) (z.2.1) (z.2.2.1) (z.2.2.2.1) (z.2.2.2.2.1) (z.2.2.2.2.2))))) (S.DelayHolds_l0 fu sp l len n y0 y1 y2 y3 y4 y5 y6 y7)
  | 0, _, _, _, _, _, _, _, _ => rfl
  | n + 1, y0, y1, y2, y3, y4, y5, y6, y7 => (S.DelayHolds_l0_k fu sp l len n K y0 y1 y2 y3 y4 y5 y6 y7).trans (by
      rw [S.DelayHolds_l0]
      refine bif_lift (f := (oK (β := (Nat × Nat × Int × Int × List (Option (Int × Int)) × List Int × List Int) ⊕ (Nat × Int × Bool × Nat × Nat × Int × Int × List (Option (Int × Int)) × List Int) ⊕ (Nat × Nat × Int × Int × List (Option (Int × Int)) × List Int)) (Sum.elim (fun z : Nat × Nat × Int × Int × List (Option (Int × Int)) × List Int × List Int => K (Ex.ret) (S.DelayHolds_x0_0 sp l len (z.1) (z.2.1) (z.2.2.1) (z.2.2.2.1) (z.2.2.2.2.1) (z.2.2.2.2.2.1) (z.2.2.2.2.2.2))) (Sum.elim (fun z : Nat × Int × Bool × Nat × Nat × Int × Int × List (Option (Int × Int)) × List Int => K (Ex.exit 0) (S.DelayHolds_x0_1 sp l len (z.1) (z.2.1) (z.2.2.1) (z.2.2.2.1) (z.2.2.2.2.1) (z.2.2.2.2.2.1) (z.2.2.2.2.2.2.1) (z.2.2.2.2.2.2.2.1) (z.2.2.2.2.2.2.2.2))) (fun z : Nat × Nat × Int × Int × List (Option (Int × Int)) × List Int => K (Ex.ret) (S.DelayHolds_x0_2 sp l len (z.1) (z.2.1) (z.2.2.1) (z.2.2.2.1) (z.2.2.2.2.1) (z.2.2.2.2.2))))))) ?_ ?_
      · 
        refine bif_lift (f := (oK (β := (Nat × Nat × Int × Int × List (Option (Int × Int)) × List Int × List Int) ⊕ (Nat × Int × Bool × Nat × Nat × Int × Int × List (Option (Int × Int)) × List Int) ⊕ (Nat × Nat × Int × Int × List (Option (Int × Int)) × List Int)) (Sum.elim (fun z : Nat × Nat × Int × Int × List (Option (Int × Int)) × List Int × List Int => K (Ex.ret) (S.DelayHolds_x0_0 sp l len (z.1) (z.2.1) (z.2.2.1) (z.2.2.2.1) (z.2.2.2.2.1) (z.2.2.2.2.2.1) (z.2.2.2.2.2.2))) (Sum.elim (fun z : Nat × Int × Bool × Nat × Nat × Int × Int × List (Option (Int × Int)) × List Int => K (Ex.exit 0) (S.DelayHolds_x0_1 sp l len (z.1) (z.2.1) (z.2.2.1) (z.2.2.2.1) (z.2.2.2.2.1) (z.2.2.2.2.2.1) (z.2.2.2.2.2.2.1) (z.2.2.2.2.2.2.2.1) (z.2.2.2.2.2.2.2.2))) (fun z : Nat × Nat × Int × Int × List (Option (Int × Int)) × List Int => K (Ex.ret) (S.DelayHolds_x0_2 sp l len (z.1) (z.2.1) (z.2.2.1) (z.2.2.2.1) (z.2.2.2.2.1) (z.2.2.2.2.2))))))) ?_ ?_
        · 
          refine bif_lift (f := (oK (β := (Nat × Nat × Int × Int × List (Option (Int × Int)) × List Int × List Int) ⊕ (Nat × Int × Bool × Nat × Nat × Int × Int × List (Option (Int × Int)) × List Int) ⊕ (Nat × Nat × Int × Int × List (Option (Int × Int)) × List Int)) (Sum.elim (fun z : Nat × Nat × Int × Int × List (Option (Int × Int)) × List Int × List Int => K (Ex.ret) (S.DelayHolds_x0_0 sp l len (z.1) (z.2.1) (z.2.2.1) (z.2.2.2.1) (z.2.2.2.2.1) (z.2.2.2.2.2.1) (z.2.2.2.2.2.2))) (Sum.elim (fun z : Nat × Int × Bool × Nat × Nat × Int × Int × List (Option (Int × Int)) × List Int => K (Ex.exit 0) (S.DelayHolds_x0_1 sp l len (z.1) (z.2.1) (z.2.2.1) (z.2.2.2.1) (z.2.2.2.2.1) (z.2.2.2.2.2.1) (z.2.2.2.2.2.2.1) (z.2.2.2.2.2.2.2.1) (z.2.2.2.2.2.2.2.2))) (fun z : Nat × Nat × Int × Int × List (Option (Int × Int)) × List Int => K (Ex.ret) (S.DelayHolds_x0_2 sp l len (z.1) (z.2.1) (z.2.2.1) (z.2.2.2.1) (z.2.2.2.2.1) (z.2.2.2.2.2))))))) ?_ ?_
          · 
            refine opt_lift fun o5 => ?_
            refine bif_lift (f := (oK (β := (Nat × Nat × Int × Int × List (Option (Int × Int)) × List Int × List Int) ⊕ (Nat × Int × Bool × Nat × Nat × Int × Int × List (Option (Int × Int)) × List Int) ⊕ (Nat × Nat × Int × Int × List (Option (Int × Int)) × List Int)) (Sum.elim (fun z : Nat × Nat × Int × Int × List (Option (Int × Int)) × List Int × List Int => K (Ex.ret) (S.DelayHolds_x0_0 sp l len (z.1) (z.2.1) (z.2.2.1) (z.2.2.2.1) (z.2.2.2.2.1) (z.2.2.2.2.2.1) (z.2.2.2.2.2.2))) (Sum.elim (fun z : Nat × Int × Bool × Nat × Nat × Int × Int × List (Option (Int × Int)) × List Int => K (Ex.exit 0) (S.DelayHolds_x0_1 sp l len (z.1) (z.2.1) (z.2.2.1) (z.2.2.2.1) (z.2.2.2.2.1) (z.2.2.2.2.2.1) (z.2.2.2.2.2.2.1) (z.2.2.2.2.2.2.2.1) (z.2.2.2.2.2.2.2.2))) (fun z : Nat × Nat × Int × Int × List (Option (Int × Int)) × List Int => K (Ex.ret) (S.DelayHolds_x0_2 sp l len (z.1) (z.2.1) (z.2.2.1) (z.2.2.2.1) (z.2.2.2.2.1) (z.2.2.2.2.2))))))) ?_ ?_
            · 
              refine bif_lift (f := (oK (β := (Nat × Nat × Int × Int × List (Option (Int × Int)) × List Int × List Int) ⊕ (Nat × Int × Bool × Nat × Nat × Int × Int × List (Option (Int × Int)) × List Int) ⊕ (Nat × Nat × Int × Int × List (Option (Int × Int)) × List Int)) (Sum.elim (fun z : Nat × Nat × Int × Int × List (Option (Int × Int)) × List Int × List Int => K (Ex.ret) (S.DelayHolds_x0_0 sp l len (z.1) (z.2.1) (z.2.2.1) (z.2.2.2.1) (z.2.2.2.2.1) (z.2.2.2.2.2.1) (z.2.2.2.2.2.2))) (Sum.elim (fun z : Nat × Int × Bool × Nat × Nat × Int × Int × List (Option (Int × Int)) × List Int => K (Ex.exit 0) (S.DelayHolds_x0_1 sp l len (z.1) (z.2.1) (z.2.2.1) (z.2.2.2.1) (z.2.2.2.2.1) (z.2.2.2.2.2.1) (z.2.2.2.2.2.2.1) (z.2.2.2.2.2.2.2.1) (z.2.2.2.2.2.2.2.2))) (fun z : Nat × Nat × Int × Int × List (Option (Int × Int)) × List Int => K (Ex.ret) (S.DelayHolds_x0_2 sp l len (z.1) (z.2.1) (z.2.2.1) (z.2.2.2.1) (z.2.2.2.2.1) (z.2.2.2.2.2))))))) ?_ ?_
              · 
                refine opt_lift fun o8 => ?_
                refine opt_lift fun o9 => ?_
                refine sumF_lift (f := (oK (β := (Nat × Nat × Int × Int × List (Option (Int × Int)) × List Int × List Int) ⊕ (Nat × Int × Bool × Nat × Nat × Int × Int × List (Option (Int × Int)) × List Int) ⊕ (Nat × Nat × Int × Int × List (Option (Int × Int)) × List Int)) (Sum.elim (fun z : Nat × Nat × Int × Int × List (Option (Int × Int)) × List Int × List Int => K (Ex.ret) (S.DelayHolds_x0_0 sp l len (z.1) (z.2.1) (z.2.2.1) (z.2.2.2.1) (z.2.2.2.2.1) (z.2.2.2.2.2.1) (z.2.2.2.2.2.2))) (Sum.elim (fun z : Nat × Int × Bool × Nat × Nat × Int × Int × List (Option (Int × Int)) × List Int => K (Ex.exit 0) (S.DelayHolds_x0_1 sp l len (z.1) (z.2.1) (z.2.2.1) (z.2.2.2.1) (z.2.2.2.2.1) (z.2.2.2.2.2.1) (z.2.2.2.2.2.2.1) (z.2.2.2.2.2.2.2.1) (z.2.2.2.2.2.2.2.2))) (fun z : Nat × Nat × Int × Int × List (Option (Int × Int)) × List Int => K (Ex.ret) (S.DelayHolds_x0_2 sp l len (z.1) (z.2.1) (z.2.2.1) (z.2.2.2.1) (z.2.2.2.2.1) (z.2.2.2.2.2))))))) (fun o10 => ?_) (fun o10 => ?_) _
                · 
                  exact rfl
                · 
                  refine bif_lift (f := (oK (β := (Nat × Nat × Int × Int × List (Option (Int × Int)) × List Int × List Int) ⊕ (Nat × Int × Bool × Nat × Nat × Int × Int × List (Option (Int × Int)) × List Int) ⊕ (Nat × Nat × Int × Int × List (Option (Int × Int)) × List Int)) (Sum.elim (fun z : Nat × Nat × Int × Int × List (Option (Int × Int)) × List Int × List Int => K (Ex.ret) (S.DelayHolds_x0_0 sp l len (z.1) (z.2.1) (z.2.2.1) (z.2.2.2.1) (z.2.2.2.2.1) (z.2.2.2.2.2.1) (z.2.2.2.2.2.2))) (Sum.elim (fun z : Nat × Int × Bool × Nat × Nat × Int × Int × List (Option (Int × Int)) × List Int => K (Ex.exit 0) (S.DelayHolds_x0_1 sp l len (z.1) (z.2.1) (z.2.2.1) (z.2.2.2.1) (z.2.2.2.2.1) (z.2.2.2.2.2.1) (z.2.2.2.2.2.2.1) (z.2.2.2.2.2.2.2.1) (z.2.2.2.2.2.2.2.2))) (fun z : Nat × Nat × Int × Int × List (Option (Int × Int)) × List Int => K (Ex.ret) (S.DelayHolds_x0_2 sp l len (z.1) (z.2.1) (z.2.2.1) (z.2.2.2.1) (z.2.2.2.2.1) (z.2.2.2.2.2))))))) ?_ ?_
                  · 
                    refine opt_lift fun o12 => ?_
                    exact (arr_lift (S.DelayHolds_l1_v fu sp l len (contOf (C_DelayHolds fu sp l len) G31 S.DelayHolds_b0 [1, 0, 0, 1, 1, 1, 0, 1, 0] (loopCont (C_DelayHolds fu sp l len) G31 S.DelayHolds_b0 n K)) fu (List.length (cutL y7 0 y0 ++ cutL [Go.IntKind.wrap .i64 (Int.tmod (Go.IntKind.wrap .u64 o5) 1000)] 0 1)) (y1) (o12) (if Go.IntKind.wrap .i64 (Go.IntKind.wrap .i64 (y1 - Go.IntKind.wrap .i64 (Int.tmod (Go.IntKind.wrap .u64 sp) 61)) + 1) > 0 then Go.IntKind.wrap .i64 (Go.IntKind.wrap .i64 (y1 - Go.IntKind.wrap .i64 (Int.tmod (Go.IntKind.wrap .u64 sp) 61)) + 1) else 0) (Prod.fst o10) (Prod.fst (Prod.snd o10)) (Prod.fst (Prod.snd (Prod.snd o10))) (Prod.snd (Prod.snd (Prod.snd o10))) (cutL y7 0 y0 ++ cutL [Go.IntKind.wrap .i64 (Int.tmod (Go.IntKind.wrap .u64 o5) 1000)] 0 1)) ((fun z => S.DelayHolds_a1_0_v fu sp l len n K _ (z.1) (z.2.1) (z.2.2.1) (z.2.2.2.1) (z.2.2.2.2.1) (z.2.2.2.2.2.1) (z.2.2.2.2.2.2.1) (z.2.2.2.2.2.2.2.1) (z.2.2.2.2.2.2.2.2.1) (z.2.2.2.2.2.2.2.2.2) (fun q0 q1 q2 q3 q4 q5 q6 q7 => S.DelayHolds_l0_v fu sp l len K n (q0) (q1) (q2) (q3) (q4) (q5) (q6) (q7)))))
                  · 
                    exact rfl
              · 
                exact rfl
            · 
              exact rfl
          · 
            exact rfl
        · 
          exact rfl
      · 
        exact rfl
      )
theorem S.DelayHolds_a0_2_k {R : Type} (fu : Nat) (sp : Int) (l : List Int) (len : Nat) (z0 : Nat) (z1 : Nat) (z2 : Int) (z3 : Int) (z4 : List (Option (Int × Int))) (z5 : List Int) (k : AVal → List Blk → Option R) : contOf (C_DelayHolds fu sp l len) G31 (bodyOf Try.f9) [1, 1, 1, 1, 1, 0, 1, 0] (retK tis F9 Try.f9 (List.length ([.rows (.int .i64) l true] : List Blk)) k) (Ex.ret) (S.DelayHolds_x0_2 sp l len (z0) (z1) (z2) (z3) (z4) (z5)) =
  (k (.bool false) ([.rows (Cd.int .i64) l true])) := by kernel_rfl
def S.DelayHolds_a0_2 (fu : Nat) (sp : Int) (l : List Int) (len : Nat) (z0 : Nat) (z1 : Nat) (z2 : Int) (z3 : Int) (z4 : List (Option (Int × Int))) (z5 : List Int) : Option (Bool) :=
  some (false)
theorem S.DelayHolds_a0_2_v {R : Type} (fu : Nat) (sp : Int) (l : List Int) (len : Nat) (z0 : Nat) (z1 : Nat) (z2 : Int) (z3 : Int) (z4 : List (Option (Int × Int))) (z5 : List Int) (k : AVal → List Blk → Option R) : contOf (C_DelayHolds fu sp l len) G31 (bodyOf Try.f9) [1, 1, 1, 1, 1, 0, 1, 0] (retK tis F9 Try.f9 (List.length ([.rows (.int .i64) l true] : List Blk)) k) (Ex.ret) (S.DelayHolds_x0_2 sp l len (z0) (z1) (z2) (z3) (z4) (z5)) = oK (fun v : Bool => k (.bool v) [(.rows (Cd.int .i64) l true)]) (S.DelayHolds_a0_2 fu sp l len z0 z1 z2 z3 z4 z5) :=
  (S.DelayHolds_a0_2_k fu sp l len z0 z1 z2 z3 z4 z5 k).trans rfl
theorem S.DelayHolds_a0_1_k {R : Type} (fu : Nat) (sp : Int) (l : List Int) (len : Nat) (z0 : Nat) (z1 : Int) (z2 : Bool) (z3 : Nat) (z4 : Nat) (z5 : Int) (z6 : Int) (z7 : List (Option (Int × Int))) (z8 : List Int) (k : AVal → List Blk → Option R) : contOf (C_DelayHolds fu sp l len) G31 (bodyOf Try.f9) [1, 1, 1, 1, 1, 0, 1, 0] (retK tis F9 Try.f9 (List.length ([.rows (.int .i64) l true] : List Blk)) k) (Ex.exit 0) (S.DelayHolds_x0_1 sp l len (z0) (z1) (z2) (z3) (z4) (z5) (z6) (z7) (z8)) =
  (bif decide (((z0 : Nat) : Int) = 0) then
    k (.bool true) ([.rows (Cd.int .i64) l true])
  else
    (optK (S.dmost 100000 z7 z3 z4 z5 z6 (Go.IntKind.wrap .i64 (((z0 : Nat) : Int) + 600))) fun o3 =>
      k (.bool (decide (Prod.fst o3 = 0))) ([.rows (Cd.int .i64) l true]))) := by kernel_rfl
def S.DelayHolds_a0_1 (fu : Nat) (sp : Int) (l : List Int) (len : Nat) (z0 : Nat) (z1 : Int) (z2 : Bool) (z3 : Nat) (z4 : Nat) (z5 : Int) (z6 : Int) (z7 : List (Option (Int × Int))) (z8 : List Int) : Option (Bool) :=
  bif decide (((z0 : Nat) : Int) = 0) then
    some (true)
  else
    (optK (S.dmost 100000 z7 z3 z4 z5 z6 (Go.IntKind.wrap .i64 (((z0 : Nat) : Int) + 600))) fun o3 =>
      some (decide (Prod.fst o3 = 0)))
theorem S.DelayHolds_a0_1_v {R : Type} (fu : Nat) (sp : Int) (l : List Int) (len : Nat) (z0 : Nat) (z1 : Int) (z2 : Bool) (z3 : Nat) (z4 : Nat) (z5 : Int) (z6 : Int) (z7 : List (Option (Int × Int))) (z8 : List Int) (k : AVal → List Blk → Option R) : contOf (C_DelayHolds fu sp l len) G31 (bodyOf Try.f9) [1, 1, 1, 1, 1, 0, 1, 0] (retK tis F9 Try.f9 (List.length ([.rows (.int .i64) l true] : List Blk)) k) (Ex.exit 0) (S.DelayHolds_x0_1 sp l len (z0) (z1) (z2) (z3) (z4) (z5) (z6) (z7) (z8)) = oK (fun v : Bool => k (.bool v) [(.rows (Cd.int .i64) l true)]) (S.DelayHolds_a0_1 fu sp l len z0 z1 z2 z3 z4 z5 z6 z7 z8) :=
  (S.DelayHolds_a0_1_k fu sp l len z0 z1 z2 z3 z4 z5 z6 z7 z8 k).trans (bif_lift (f := (oK (fun v : Bool => k (.bool v) [(.rows (Cd.int .i64) l true)]))) rfl (opt_lift fun o3 => rfl))
theorem S.DelayHolds_a0_0_k {R : Type} (fu : Nat) (sp : Int) (l : List Int) (len : Nat) (z0 : Nat) (z1 : Nat) (z2 : Int) (z3 : Int) (z4 : List (Option (Int × Int))) (z5 : List Int) (z6 : List Int) (k : AVal → List Blk → Option R) : contOf (C_DelayHolds fu sp l len) G31 (bodyOf Try.f9) [1, 1, 1, 1, 1, 0, 1, 0] (retK tis F9 Try.f9 (List.length ([.rows (.int .i64) l true] : List Blk)) k) (Ex.ret) (S.DelayHolds_x0_0 sp l len (z0) (z1) (z2) (z3) (z4) (z5) (z6)) =
  (k (.bool false) ([.rows (Cd.int .i64) l true])) := by kernel_rfl
def S.DelayHolds_a0_0 (fu : Nat) (sp : Int) (l : List Int) (len : Nat) (z0 : Nat) (z1 : Nat) (z2 : Int) (z3 : Int) (z4 : List (Option (Int × Int))) (z5 : List Int) (z6 : List Int) : Option (Bool) :=
  some (false)
theorem S.DelayHolds_a0_0_v {R : Type} (fu : Nat) (sp : Int) (l : List Int) (len : Nat) (z0 : Nat) (z1 : Nat) (z2 : Int) (z3 : Int) (z4 : List (Option (Int × Int))) (z5 : List Int) (z6 : List Int) (k : AVal → List Blk → Option R) : contOf (C_DelayHolds fu sp l len) G31 (bodyOf Try.f9) [1, 1, 1, 1, 1, 0, 1, 0] (retK tis F9 Try.f9 (List.length ([.rows (.int .i64) l true] : List Blk)) k) (Ex.ret) (S.DelayHolds_x0_0 sp l len (z0) (z1) (z2) (z3) (z4) (z5) (z6)) = oK (fun v : Bool => k (.bool v) [(.rows (Cd.int .i64) l true)]) (S.DelayHolds_a0_0 fu sp l len z0 z1 z2 z3 z4 z5 z6) :=
  (S.DelayHolds_a0_0_k fu sp l len z0 z1 z2 z3 z4 z5 z6 k).trans rfl
theorem S.DelayHolds_k {R : Type} (fu : Nat) (sp : Int) (l : List Int) (len : Nat) (k : AVal → List Blk → Option R) : fnEval tis F9 fu G31 Try.f9 [.int .i64 sp, .slice 1 0 0 len none] [.rows (.int .i64) l true] k =
  ((Sum.elim (fun o2 : Unit =>
    k (.bool false) ([.rows (Cd.int .i64) l true])) (fun o2 : Int =>
    loopRun (C_DelayHolds fu sp l len) G31 S.DelayHolds_b0 fu (S.DelayHolds_s0 sp l len (0) (0) (0) (0) (o2) (0) ([]) ([])) (contOf (C_DelayHolds fu sp l len) G31 (bodyOf Try.f9) [1, 1, 1, 1, 1, 0, 1, 0] (retK tis F9 Try.f9 (List.length ([.rows (.int .i64) l true] : List Blk)) k))) (S.dnew (Go.IntKind.wrap .i64 (Int.tmod (Go.IntKind.wrap .u64 sp) 61))))) := by kernel_rfl
def S.DelayHolds (fu : Nat) (sp : Int) (l : List Int) (len : Nat) : Option (Bool) :=
  (Sum.elim (fun o2 : Unit =>
    some (false)) (fun o2 : Int =>
    optK (S.DelayHolds_l0 fu sp l len fu (0) (0) (0) (0) (o2) (0) ([]) ([])) (Sum.elim (fun z : Nat × Nat × Int × Int × List (Option (Int × Int)) × List Int × List Int => S.DelayHolds_a0_0 fu sp l len (z.1) (z.2.1) (z.2.2.1) (z.2.2.2.1) (z.2.2.2.2.1) (z.2.2.2.2.2.1) (z.2.2.2.2.2.2)) (Sum.elim (fun z : Nat × Int × Bool × Nat × Nat × Int × Int × List (Option (Int × Int)) × List Int => S.DelayHolds_a0_1 fu sp l len (z.1) (z.2.1) (z.2.2.1) (z.2.2.2.1) (z.2.2.2.2.1) (z.2.2.2.2.2.1) (z.2.2.2.2.2.2.1) (z.2.2.2.2.2.2.2.1) (z.2.2.2.2.2.2.2.2)) (fun z : Nat × Nat × Int × Int × List (Option (Int × Int)) × List Int => S.DelayHolds_a0_2 fu sp l len (z.1) (z.2.1) (z.2.2.1) (z.2.2.2.1) (z.2.2.2.2.1) (z.2.2.2.2.2))))) (S.dnew (Go.IntKind.wrap .i64 (Int.tmod (Go.IntKind.wrap .u64 sp) 61))))
theorem S.DelayHolds_v {R : Type} (fu : Nat) (sp : Int) (l : List Int) (len : Nat) (k : AVal → List Blk → Option R) : fnEval tis F9 fu G31 Try.f9 [.int .i64 sp, .slice 1 0 0 len none] [.rows (.int .i64) l true] k = oK (fun v : Bool => k (.bool v) [(.rows (Cd.int .i64) l true)]) (S.DelayHolds fu sp l len) :=
  (S.DelayHolds_k fu sp l len k).trans (by
      unfold S.DelayHolds
      refine sumF_lift (f := (oK (fun v : Bool => k (.bool v) [(.rows (Cd.int .i64) l true)]))) (fun o2 => ?_) (fun o2 => ?_) _
      · 
        exact rfl
      · 
        exact (arr_lift (S.DelayHolds_l0_v fu sp l len (contOf (C_DelayHolds fu sp l len) G31 (bodyOf Try.f9) [1, 1, 1, 1, 1, 0, 1, 0] (retK tis F9 Try.f9 (List.length ([.rows (.int .i64) l true] : List Blk)) k)) fu (0) (0) (0) (0) (o2) (0) ([]) ([])) ((sum_lift (fun z => S.DelayHolds_a0_0_v fu sp l len (z.1) (z.2.1) (z.2.2.1) (z.2.2.2.1) (z.2.2.2.2.1) (z.2.2.2.2.2.1) (z.2.2.2.2.2.2) k) (sum_lift (fun z => S.DelayHolds_a0_1_v fu sp l len (z.1) (z.2.1) (z.2.2.1) (z.2.2.2.1) (z.2.2.2.2.1) (z.2.2.2.2.2.1) (z.2.2.2.2.2.2.1) (z.2.2.2.2.2.2.2.1) (z.2.2.2.2.2.2.2.2) k) (fun z => S.DelayHolds_a0_2_v fu sp l len (z.1) (z.2.1) (z.2.2.1) (z.2.2.2.1) (z.2.2.2.2.1) (z.2.2.2.2.2) k)))))
      )
def H9 : Hnd := fun R args σ k => match args, σ with
  | [.int .i64 sp, .slice 1 0 0 len none], [.rows (.int .i64) l true] => oK (fun v : Bool => k (.bool v) [(.rows (Cd.int .i64) l true)]) (S.DelayHolds 100000 sp l len)
  | _, _ => none
theorem H9_ok : HndOk Try.prog 9 H9 := hnd_ok tis tisOk mixOk G31_ok F9 Try.func9 rfl (by
  intro R args σ k r h
  unfold H9 at h
  split at h
  · rename_i sp len l; exact ⟨100000, (S.DelayHolds_v 100000 sp l len _).trans h⟩
  · cases h)
def G9 : Env := Env.add 9 H9 G31
theorem G9_ok : EnvOk Try.prog G9 := envAdd_ok H9_ok G31_ok
end Go.Proofs.Ytfoaihjkmfhaoaa.AB
