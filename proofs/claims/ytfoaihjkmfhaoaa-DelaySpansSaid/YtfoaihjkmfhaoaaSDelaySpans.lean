/- DelaySpans, as a plain function. -/
import Derived.Test.YtfoaihjkmfhaoaaSdelay
namespace Go.Proofs.Ytfoaihjkmfhaoaa.AB
set_option linter.unusedVariables false

/-! spinnakerlaw15.DelaySpans -/
def F7 : FCfg := ⟨keepAt [(0, [0, 1, 2]), (1, [0, 7, 8]), (2, [0, 7, 8, 25]), (3, [0, 7, 8]), (4, [0, 8, 9]), (5, [0, 8, 9, 31]), (6, [6]), (7, [0, 8, 9, 10]), (8, [0, 8, 9, 10, 11]), (9, [0, 8, 9, 10, 11, 39]), (10, [0, 8, 9, 10, 11]), (11, [0, 8, 9, 10, 11, 52]), (12, [6]), (13, [0, 8, 9, 10, 11]), (14, [8, 9, 12]), (15, [8, 9, 12, 13]), (16, [8, 9, 12, 13, 62]), (17, [6]), (18, [8, 9, 12, 13, 14]), (19, [6])], loopAt [(9, [0, 8, 9, 10, 11], [⟨false, 1, 0, (.box 92 (.pair (.int .i64) (.int .i64)))⟩])], []⟩
noncomputable def C_DelaySpans (fu : Nat) (l : List Int) (len : Nat) (a b : Int) : Cfg := Cfg.of tis F7 fu (List.length ([.rows (.int .i64) l true] : List Blk)) Try.f7.ntmps
noncomputable def S.DelaySpans_b0 : Code := codeAt (bodyOf Try.f7) [1, 1, 1, 1, 1, 1, 0, 1, 0, 0]
noncomputable def S.DelaySpans_s0 (l : List Int) (len : Nat) (a b : Int) (y0 : Int) (y1 : Int) (y2 : Int) (y3 : Nat) (y4 : Int) (y5 : Int) (y6 : List (Option (Int × Int))) : St := ⟨[(0, (.slice 1 0 (0) (len) none)), (8, (.int .i64 (y0))), (9, (.ptr 1 (0) 0)), (10, (.int .i64 (y1))), (11, (.int .i64 (y2)))], [(.rows (Cd.int .i64) l true), (.var [(.slice 1 2 (0) (y3) none), (.int .i64 (y4)), (.int .i64 (y5))]), (.rows (Cd.box 92 (Cd.pair (Cd.int .i64) (Cd.int .i64))) (y6) false)]⟩
noncomputable def S.DelaySpans_x0_0 (l : List Int) (len : Nat) (a b : Int) (z0 : Nat) (z1 : Nat) (z2 : Int) (z3 : Int) (z4 : List (Option (Int × Int))) : St := ⟨[(6, (.bool (false)))], [(.rows (Cd.int .i64) l true), (.var [(.slice 1 2 (z0) (z1) none), (.int .i64 (z2)), (.int .i64 (z3))]), (.rows (Cd.box 92 (Cd.pair (Cd.int .i64) (Cd.int .i64))) (z4) false)]⟩
noncomputable def S.DelaySpans_x0_1 (l : List Int) (len : Nat) (a b : Int) (z0 : Int) (z1 : Int) (z2 : Int) (z3 : Bool) (z4 : Nat) (z5 : Int) (z6 : Int) (z7 : List (Option (Int × Int))) : St := ⟨[(0, (.slice 1 0 (0) (len) none)), (8, (.int .i64 (z0))), (9, (.ptr 1 (0) 0)), (10, (.int .i64 (z1))), (11, (.int .i64 (z2))), (39, (.bool (z3)))], [(.rows (Cd.int .i64) l true), (.var [(.slice 1 2 (0) (z4) none), (.int .i64 (z5)), (.int .i64 (z6))]), (.rows (Cd.box 92 (Cd.pair (Cd.int .i64) (Cd.int .i64))) (z7) false)]⟩
theorem S.DelaySpans_l0_k {R : Type} (fu : Nat) (l : List Int) (len : Nat) (a b : Int) (n : Nat) (K : Ex → St → Option R) (y0 : Int) (y1 : Int) (y2 : Int) (y3 : Nat) (y4 : Int) (y5 : Int) (y6 : List (Option (Int × Int))) : loopRun (C_DelaySpans fu l len a b) G31 S.DelaySpans_b0 (n + 1) (S.DelaySpans_s0 l len a b (y0) (y1) (y2) (y3) (y4) (y5) (y6)) K =
  (bif decide (y2 < ((len : Nat) : Int)) then
    bif decide (y2 < 100) then
      bif inB y2 len then
        (optK (l[Int.toNat y2 + 0]?) fun o5 =>
          (optK (S.dput y6 0 y3 y4 y5 y2 (Go.IntKind.wrap .i64 (Int.tmod (Go.IntKind.wrap .u64 o5) 1000))) fun o6 =>
            (Sum.elim (fun o7 : Nat × Nat × Int × Int × List (Option (Int × Int)) =>
    K (Ex.ret) (S.DelaySpans_x0_0 l len a b (Prod.fst o7) (Prod.fst (Prod.snd o7)) (Prod.fst (Prod.snd (Prod.snd o7))) (Prod.fst (Prod.snd (Prod.snd (Prod.snd o7)))) (Prod.snd (Prod.snd (Prod.snd (Prod.snd o7)))))) (fun o7 : Nat × Int × Int × List (Option (Int × Int)) =>
    loopRun (C_DelaySpans fu l len a b) G31 S.DelaySpans_b0 n (S.DelaySpans_s0 l len a b (y0) (Go.IntKind.wrap .i64 (y1 + 1)) (Go.IntKind.wrap .i64 (y2 + 1)) (Prod.fst o7) (Prod.fst (Prod.snd o7)) (Prod.fst (Prod.snd (Prod.snd o7))) (Prod.snd (Prod.snd (Prod.snd o7)))) K) (o6))))
      else
        none
    else
      K (Ex.exit 0) (S.DelaySpans_x0_1 l len a b (y0) (y1) (y2) (decide (y2 < 100)) (y3) (y4) (y5) (y6))
  else
    K (Ex.exit 0) (S.DelaySpans_x0_1 l len a b (y0) (y1) (y2) (false) (y3) (y4) (y5) (y6))) := by kernel_rfl
def S.DelaySpans_l0 (fu : Nat) (l : List Int) (len : Nat) (a b : Int) : Nat → (Int) → (Int) → (Int) → (Nat) → (Int) → (Int) → (List (Option (Int × Int))) → Option ((Nat × Nat × Int × Int × List (Option (Int × Int))) ⊕ (Int × Int × Int × Bool × Nat × Int × Int × List (Option (Int × Int))))
  | 0, _, _, _, _, _, _, _ => none
  | n + 1, y0, y1, y2, y3, y4, y5, y6 =>
    bif decide (y2 < ((len : Nat) : Int)) then
      bif decide (y2 < 100) then
        bif inB y2 len then
          (optK (l[Int.toNat y2 + 0]?) fun o5 =>
            (optK (S.dput y6 0 y3 y4 y5 y2 (Go.IntKind.wrap .i64 (Int.tmod (Go.IntKind.wrap .u64 o5) 1000))) fun o6 =>
              (Sum.elim (fun o7 : Nat × Nat × Int × Int × List (Option (Int × Int)) =>
    some (.inl (Prod.fst o7, Prod.fst (Prod.snd o7), Prod.fst (Prod.snd (Prod.snd o7)), Prod.fst (Prod.snd (Prod.snd (Prod.snd o7))), Prod.snd (Prod.snd (Prod.snd (Prod.snd o7)))))) (fun o7 : Nat × Int × Int × List (Option (Int × Int)) =>
    (S.DelaySpans_l0 fu l len a b n) (y0) (Go.IntKind.wrap .i64 (y1 + 1)) (Go.IntKind.wrap .i64 (y2 + 1)) (Prod.fst o7) (Prod.fst (Prod.snd o7)) (Prod.fst (Prod.snd (Prod.snd o7))) (Prod.snd (Prod.snd (Prod.snd o7)))) (o6))))
        else
          none
      else
        some (.inr (y0, y1, y2, decide (y2 < 100), y3, y4, y5, y6))
    else
      some (.inr (y0, y1, y2, false, y3, y4, y5, y6))
theorem S.DelaySpans_l0_v {R : Type} (fu : Nat) (l : List Int) (len : Nat) (a b : Int) (K : Ex → St → Option R) : ∀ (n : Nat) (y0 : Int) (y1 : Int) (y2 : Int) (y3 : Nat) (y4 : Int) (y5 : Int) (y6 : List (Option (Int × Int))), loopRun (C_DelaySpans fu l len a b) G31 S.DelaySpans_b0 n (S.DelaySpans_s0 l len a b (y0) (y1) (y2) (y3) (y4) (y5) (y6)) K = oK (β := (Nat × Nat × Int × Int × List (Option (Int × Int))) ⊕ (Int × Int × Int × Bool × Nat × Int × Int × List (Option (Int × Int)))) (Sum.elim (fun z : Nat × Nat × Int × Int × List (Option (Int × Int)) => K (Ex.ret) (S.DelaySpans_x0_0 l len a b (z.1) (z.2.1) (z.2.2.1) (z.2.2.2.1) (z.2.2.2.2))) (fun z : Int × Int × Int × Bool × Nat × Int × Int × List (Option (Int × Int)) => K (Ex.exit 0) (S.DelaySpans_x0_1 l len a b (z.1) (z.2.1) (z.2.2.1) (z.2.2.2.1) (z.2.2.2.2.1) (z.2.2.2.2.2.1) (z.2.2.2.2.2.2.1) (z.2.2.2.2.2.2.2)))) (S.DelaySpans_l0 fu l len a b n y0 y1 y2 y3 y4 y5 y6)
  | 0, _, _, _, _, _, _, _ => rfl
  | n + 1, y0, y1, y2, y3, y4, y5, y6 => (S.DelaySpans_l0_k fu l len a b n K y0 y1 y2 y3 y4 y5 y6).trans (by
      rw [S.DelaySpans_l0]
      refine bif_lift (f := (oK (β := (Nat × Nat × Int × Int × List (Option (Int × Int))) ⊕ (Int × Int × Int × Bool × Nat × Int × Int × List (Option (Int × Int)))) (Sum.elim (fun z : Nat × Nat × Int × Int × List (Option (Int × Int)) => K (Ex.ret) (S.DelaySpans_x0_0 l len a b (z.1) (z.2.1) (z.2.2.1) (z.2.2.2.1) (z.2.2.2.2))) (fun z : Int × Int × Int × Bool × Nat × Int × Int × List (Option (Int × Int)) => K (Ex.exit 0) (S.DelaySpans_x0_1 l len a b (z.1) (z.2.1) (z.2.2.1) (z.2.2.2.1) (z.2.2.2.2.1) (z.2.2.2.2.2.1) (z.2.2.2.2.2.2.1) (z.2.2.2.2.2.2.2)))))) ?_ ?_
      · 
        refine bif_lift (f := (oK (β := (Nat × Nat × Int × Int × List (Option (Int × Int))) ⊕ (Int × Int × Int × Bool × Nat × Int × Int × List (Option (Int × Int)))) (Sum.elim (fun z : Nat × Nat × Int × Int × List (Option (Int × Int)) => K (Ex.ret) (S.DelaySpans_x0_0 l len a b (z.1) (z.2.1) (z.2.2.1) (z.2.2.2.1) (z.2.2.2.2))) (fun z : Int × Int × Int × Bool × Nat × Int × Int × List (Option (Int × Int)) => K (Ex.exit 0) (S.DelaySpans_x0_1 l len a b (z.1) (z.2.1) (z.2.2.1) (z.2.2.2.1) (z.2.2.2.2.1) (z.2.2.2.2.2.1) (z.2.2.2.2.2.2.1) (z.2.2.2.2.2.2.2)))))) ?_ ?_
        · 
          refine bif_lift (f := (oK (β := (Nat × Nat × Int × Int × List (Option (Int × Int))) ⊕ (Int × Int × Int × Bool × Nat × Int × Int × List (Option (Int × Int)))) (Sum.elim (fun z : Nat × Nat × Int × Int × List (Option (Int × Int)) => K (Ex.ret) (S.DelaySpans_x0_0 l len a b (z.1) (z.2.1) (z.2.2.1) (z.2.2.2.1) (z.2.2.2.2))) (fun z : Int × Int × Int × Bool × Nat × Int × Int × List (Option (Int × Int)) => K (Ex.exit 0) (S.DelaySpans_x0_1 l len a b (z.1) (z.2.1) (z.2.2.1) (z.2.2.2.1) (z.2.2.2.2.1) (z.2.2.2.2.2.1) (z.2.2.2.2.2.2.1) (z.2.2.2.2.2.2.2)))))) ?_ ?_
          · 
            refine opt_lift fun o5 => ?_
            refine opt_lift fun o6 => ?_
            refine sumF_lift (f := (oK (β := (Nat × Nat × Int × Int × List (Option (Int × Int))) ⊕ (Int × Int × Int × Bool × Nat × Int × Int × List (Option (Int × Int)))) (Sum.elim (fun z : Nat × Nat × Int × Int × List (Option (Int × Int)) => K (Ex.ret) (S.DelaySpans_x0_0 l len a b (z.1) (z.2.1) (z.2.2.1) (z.2.2.2.1) (z.2.2.2.2))) (fun z : Int × Int × Int × Bool × Nat × Int × Int × List (Option (Int × Int)) => K (Ex.exit 0) (S.DelaySpans_x0_1 l len a b (z.1) (z.2.1) (z.2.2.1) (z.2.2.2.1) (z.2.2.2.2.1) (z.2.2.2.2.2.1) (z.2.2.2.2.2.2.1) (z.2.2.2.2.2.2.2)))))) (fun o7 => ?_) (fun o7 => ?_) _
            · 
              exact rfl
            · 
              exact (S.DelaySpans_l0_v fu l len a b K n (y0) (Go.IntKind.wrap .i64 (y1 + 1)) (Go.IntKind.wrap .i64 (y2 + 1)) (Prod.fst o7) (Prod.fst (Prod.snd o7)) (Prod.fst (Prod.snd (Prod.snd o7))) (Prod.snd (Prod.snd (Prod.snd o7))))
          · 
            exact rfl
        · 
          exact rfl
      · 
        exact rfl
      )
theorem S.DelaySpans_a0_1_k {R : Type} (fu : Nat) (l : List Int) (len : Nat) (a b : Int) (z0 : Int) (z1 : Int) (z2 : Int) (z3 : Bool) (z4 : Nat) (z5 : Int) (z6 : Int) (z7 : List (Option (Int × Int))) (k : AVal → List Blk → Option R) : contOf (C_DelaySpans fu l len a b) G31 (bodyOf Try.f7) [1, 1, 1, 1, 1, 1, 0, 1, 0] (retK tis F7 Try.f7 (List.length ([.rows (.int .i64) l true] : List Blk)) k) (Ex.exit 0) (S.DelaySpans_x0_1 l len a b (z0) (z1) (z2) (z3) (z4) (z5) (z6) (z7)) =
  ((optK (S.dmost 100000 z7 0 z4 z5 z6 z1) fun o2 =>
    bif !decide (Prod.fst (S.dspan (Prod.snd (Prod.snd (Prod.snd (Prod.snd (Prod.snd o2))))) (Prod.fst (Prod.snd o2)) (Prod.fst (Prod.snd (Prod.snd o2))) (Prod.fst (Prod.snd (Prod.snd (Prod.snd o2)))) (Prod.fst (Prod.snd (Prod.snd (Prod.snd (Prod.snd o2))))) z0) = 0) then
      k (.bool false) ([.rows (Cd.int .i64) l true])
    else
      (optK (S.dmost 100000 (Prod.snd (Prod.snd (Prod.snd (Prod.snd (Prod.snd (S.dspan (Prod.snd (Prod.snd (Prod.snd (Prod.snd (Prod.snd o2))))) (Prod.fst (Prod.snd o2)) (Prod.fst (Prod.snd (Prod.snd o2))) (Prod.fst (Prod.snd (Prod.snd (Prod.snd o2)))) (Prod.fst (Prod.snd (Prod.snd (Prod.snd (Prod.snd o2))))) z0)))))) (Prod.fst (Prod.snd (S.dspan (Prod.snd (Prod.snd (Prod.snd (Prod.snd (Prod.snd o2))))) (Prod.fst (Prod.snd o2)) (Prod.fst (Prod.snd (Prod.snd o2))) (Prod.fst (Prod.snd (Prod.snd (Prod.snd o2)))) (Prod.fst (Prod.snd (Prod.snd (Prod.snd (Prod.snd o2))))) z0))) (Prod.fst (Prod.snd (Prod.snd (S.dspan (Prod.snd (Prod.snd (Prod.snd (Prod.snd (Prod.snd o2))))) (Prod.fst (Prod.snd o2)) (Prod.fst (Prod.snd (Prod.snd o2))) (Prod.fst (Prod.snd (Prod.snd (Prod.snd o2)))) (Prod.fst (Prod.snd (Prod.snd (Prod.snd (Prod.snd o2))))) z0)))) (Prod.fst (Prod.snd (Prod.snd (Prod.snd (S.dspan (Prod.snd (Prod.snd (Prod.snd (Prod.snd (Prod.snd o2))))) (Prod.fst (Prod.snd o2)) (Prod.fst (Prod.snd (Prod.snd o2))) (Prod.fst (Prod.snd (Prod.snd (Prod.snd o2)))) (Prod.fst (Prod.snd (Prod.snd (Prod.snd (Prod.snd o2))))) z0))))) (Prod.fst (Prod.snd (Prod.snd (Prod.snd (Prod.snd (S.dspan (Prod.snd (Prod.snd (Prod.snd (Prod.snd (Prod.snd o2))))) (Prod.fst (Prod.snd o2)) (Prod.fst (Prod.snd (Prod.snd o2))) (Prod.fst (Prod.snd (Prod.snd (Prod.snd o2)))) (Prod.fst (Prod.snd (Prod.snd (Prod.snd (Prod.snd o2))))) z0)))))) z1) fun o4 =>
        bif decide (Prod.fst o2 ≤ Prod.fst o4) then
          (optK (S.dmost 100000 (Prod.snd (Prod.snd (Prod.snd (Prod.snd (Prod.snd (S.dspan (Prod.snd (Prod.snd (Prod.snd (Prod.snd (Prod.snd o4))))) (Prod.fst (Prod.snd o4)) (Prod.fst (Prod.snd (Prod.snd o4))) (Prod.fst (Prod.snd (Prod.snd (Prod.snd o4)))) (Prod.fst (Prod.snd (Prod.snd (Prod.snd (Prod.snd o4))))) 601)))))) (Prod.fst (Prod.snd (S.dspan (Prod.snd (Prod.snd (Prod.snd (Prod.snd (Prod.snd o4))))) (Prod.fst (Prod.snd o4)) (Prod.fst (Prod.snd (Prod.snd o4))) (Prod.fst (Prod.snd (Prod.snd (Prod.snd o4)))) (Prod.fst (Prod.snd (Prod.snd (Prod.snd (Prod.snd o4))))) 601))) (Prod.fst (Prod.snd (Prod.snd (S.dspan (Prod.snd (Prod.snd (Prod.snd (Prod.snd (Prod.snd o4))))) (Prod.fst (Prod.snd o4)) (Prod.fst (Prod.snd (Prod.snd o4))) (Prod.fst (Prod.snd (Prod.snd (Prod.snd o4)))) (Prod.fst (Prod.snd (Prod.snd (Prod.snd (Prod.snd o4))))) 601)))) (Prod.fst (Prod.snd (Prod.snd (Prod.snd (S.dspan (Prod.snd (Prod.snd (Prod.snd (Prod.snd (Prod.snd o4))))) (Prod.fst (Prod.snd o4)) (Prod.fst (Prod.snd (Prod.snd o4))) (Prod.fst (Prod.snd (Prod.snd (Prod.snd o4)))) (Prod.fst (Prod.snd (Prod.snd (Prod.snd (Prod.snd o4))))) 601))))) (Prod.fst (Prod.snd (Prod.snd (Prod.snd (Prod.snd (S.dspan (Prod.snd (Prod.snd (Prod.snd (Prod.snd (Prod.snd o4))))) (Prod.fst (Prod.snd o4)) (Prod.fst (Prod.snd (Prod.snd o4))) (Prod.fst (Prod.snd (Prod.snd (Prod.snd o4)))) (Prod.fst (Prod.snd (Prod.snd (Prod.snd (Prod.snd o4))))) 601)))))) z1) fun o6 =>
            bif decide (Prod.fst o6 = Prod.fst o4) then
              (optK (S.dmost 100000 (Prod.snd (Prod.snd (Prod.snd (Prod.snd (Prod.snd o6))))) (Prod.fst (Prod.snd o6)) (Prod.fst (Prod.snd (Prod.snd o6))) (Prod.fst (Prod.snd (Prod.snd (Prod.snd o6)))) (Prod.fst (Prod.snd (Prod.snd (Prod.snd (Prod.snd o6))))) (Go.IntKind.wrap .i64 (z1 + z0))) fun o8 =>
                k (.bool (decide (Prod.fst o8 = 0))) ([.rows (Cd.int .i64) l true]))
            else
              k (.bool false) ([.rows (Cd.int .i64) l true]))
        else
          k (.bool false) ([.rows (Cd.int .i64) l true])))) := by kernel_rfl
def S.DelaySpans_a0_1 (fu : Nat) (l : List Int) (len : Nat) (a b : Int) (z0 : Int) (z1 : Int) (z2 : Int) (z3 : Bool) (z4 : Nat) (z5 : Int) (z6 : Int) (z7 : List (Option (Int × Int))) : Option (Bool) :=
  (optK (S.dmost 100000 z7 0 z4 z5 z6 z1) fun o2 =>
    bif !decide (Prod.fst (S.dspan (Prod.snd (Prod.snd (Prod.snd (Prod.snd (Prod.snd o2))))) (Prod.fst (Prod.snd o2)) (Prod.fst (Prod.snd (Prod.snd o2))) (Prod.fst (Prod.snd (Prod.snd (Prod.snd o2)))) (Prod.fst (Prod.snd (Prod.snd (Prod.snd (Prod.snd o2))))) z0) = 0) then
      some (false)
    else
      (optK (S.dmost 100000 (Prod.snd (Prod.snd (Prod.snd (Prod.snd (Prod.snd (S.dspan (Prod.snd (Prod.snd (Prod.snd (Prod.snd (Prod.snd o2))))) (Prod.fst (Prod.snd o2)) (Prod.fst (Prod.snd (Prod.snd o2))) (Prod.fst (Prod.snd (Prod.snd (Prod.snd o2)))) (Prod.fst (Prod.snd (Prod.snd (Prod.snd (Prod.snd o2))))) z0)))))) (Prod.fst (Prod.snd (S.dspan (Prod.snd (Prod.snd (Prod.snd (Prod.snd (Prod.snd o2))))) (Prod.fst (Prod.snd o2)) (Prod.fst (Prod.snd (Prod.snd o2))) (Prod.fst (Prod.snd (Prod.snd (Prod.snd o2)))) (Prod.fst (Prod.snd (Prod.snd (Prod.snd (Prod.snd o2))))) z0))) (Prod.fst (Prod.snd (Prod.snd (S.dspan (Prod.snd (Prod.snd (Prod.snd (Prod.snd (Prod.snd o2))))) (Prod.fst (Prod.snd o2)) (Prod.fst (Prod.snd (Prod.snd o2))) (Prod.fst (Prod.snd (Prod.snd (Prod.snd o2)))) (Prod.fst (Prod.snd (Prod.snd (Prod.snd (Prod.snd o2))))) z0)))) (Prod.fst (Prod.snd (Prod.snd (Prod.snd (S.dspan (Prod.snd (Prod.snd (Prod.snd (Prod.snd (Prod.snd o2))))) (Prod.fst (Prod.snd o2)) (Prod.fst (Prod.snd (Prod.snd o2))) (Prod.fst (Prod.snd (Prod.snd (Prod.snd o2)))) (Prod.fst (Prod.snd (Prod.snd (Prod.snd (Prod.snd o2))))) z0))))) (Prod.fst (Prod.snd (Prod.snd (Prod.snd (Prod.snd (S.dspan (Prod.snd (Prod.snd (Prod.snd (Prod.snd (Prod.snd o2))))) (Prod.fst (Prod.snd o2)) (Prod.fst (Prod.snd (Prod.snd o2))) (Prod.fst (Prod.snd (Prod.snd (Prod.snd o2)))) (Prod.fst (Prod.snd (Prod.snd (Prod.snd (Prod.snd o2))))) z0)))))) z1) fun o4 =>
        bif decide (Prod.fst o2 ≤ Prod.fst o4) then
          (optK (S.dmost 100000 (Prod.snd (Prod.snd (Prod.snd (Prod.snd (Prod.snd (S.dspan (Prod.snd (Prod.snd (Prod.snd (Prod.snd (Prod.snd o4))))) (Prod.fst (Prod.snd o4)) (Prod.fst (Prod.snd (Prod.snd o4))) (Prod.fst (Prod.snd (Prod.snd (Prod.snd o4)))) (Prod.fst (Prod.snd (Prod.snd (Prod.snd (Prod.snd o4))))) 601)))))) (Prod.fst (Prod.snd (S.dspan (Prod.snd (Prod.snd (Prod.snd (Prod.snd (Prod.snd o4))))) (Prod.fst (Prod.snd o4)) (Prod.fst (Prod.snd (Prod.snd o4))) (Prod.fst (Prod.snd (Prod.snd (Prod.snd o4)))) (Prod.fst (Prod.snd (Prod.snd (Prod.snd (Prod.snd o4))))) 601))) (Prod.fst (Prod.snd (Prod.snd (S.dspan (Prod.snd (Prod.snd (Prod.snd (Prod.snd (Prod.snd o4))))) (Prod.fst (Prod.snd o4)) (Prod.fst (Prod.snd (Prod.snd o4))) (Prod.fst (Prod.snd (Prod.snd (Prod.snd o4)))) (Prod.fst (Prod.snd (Prod.snd (Prod.snd (Prod.snd o4))))) 601)))) (Prod.fst (Prod.snd (Prod.snd (Prod.snd (S.dspan (Prod.snd (Prod.snd (Prod.snd (Prod.snd (Prod.snd o4))))) (Prod.fst (Prod.snd o4)) (Prod.fst (Prod.snd (Prod.snd o4))) (Prod.fst (Prod.snd (Prod.snd (Prod.snd o4)))) (Prod.fst (Prod.snd (Prod.snd (Prod.snd (Prod.snd o4))))) 601))))) (Prod.fst (Prod.snd (Prod.snd (Prod.snd (Prod.snd (S.dspan (Prod.snd (Prod.snd (Prod.snd (Prod.snd (Prod.snd o4))))) (Prod.fst (Prod.snd o4)) (Prod.fst (Prod.snd (Prod.snd o4))) (Prod.fst (Prod.snd (Prod.snd (Prod.snd o4)))) (Prod.fst (Prod.snd (Prod.snd (Prod.snd (Prod.snd o4))))) 601)))))) z1) fun o6 =>
            bif decide (Prod.fst o6 = Prod.fst o4) then
              (optK (S.dmost 100000 (Prod.snd (Prod.snd (Prod.snd (Prod.snd (Prod.snd o6))))) (Prod.fst (Prod.snd o6)) (Prod.fst (Prod.snd (Prod.snd o6))) (Prod.fst (Prod.snd (Prod.snd (Prod.snd o6)))) (Prod.fst (Prod.snd (Prod.snd (Prod.snd (Prod.snd o6))))) (Go.IntKind.wrap .i64 (z1 + z0))) fun o8 =>
                some (decide (Prod.fst o8 = 0)))
            else
              some (false))
        else
          some (false)))
theorem S.DelaySpans_a0_1_v {R : Type} (fu : Nat) (l : List Int) (len : Nat) (a b : Int) (z0 : Int) (z1 : Int) (z2 : Int) (z3 : Bool) (z4 : Nat) (z5 : Int) (z6 : Int) (z7 : List (Option (Int × Int))) (k : AVal → List Blk → Option R) : contOf (C_DelaySpans fu l len a b) G31 (bodyOf Try.f7) [1, 1, 1, 1, 1, 1, 0, 1, 0] (retK tis F7 Try.f7 (List.length ([.rows (.int .i64) l true] : List Blk)) k) (Ex.exit 0) (S.DelaySpans_x0_1 l len a b (z0) (z1) (z2) (z3) (z4) (z5) (z6) (z7)) = oK (fun v : Bool => k (.bool v) [(.rows (Cd.int .i64) l true)]) (S.DelaySpans_a0_1 fu l len a b z0 z1 z2 z3 z4 z5 z6 z7) :=
  (S.DelaySpans_a0_1_k fu l len a b z0 z1 z2 z3 z4 z5 z6 z7 k).trans (opt_lift fun o2 => (bif_lift (f := (oK (fun v : Bool => k (.bool v) [(.rows (Cd.int .i64) l true)]))) rfl (opt_lift fun o4 => (bif_lift (f := (oK (fun v : Bool => k (.bool v) [(.rows (Cd.int .i64) l true)]))) (opt_lift fun o6 => (bif_lift (f := (oK (fun v : Bool => k (.bool v) [(.rows (Cd.int .i64) l true)]))) (opt_lift fun o8 => rfl) rfl)) rfl))))
theorem S.DelaySpans_a0_0_k {R : Type} (fu : Nat) (l : List Int) (len : Nat) (a b : Int) (z0 : Nat) (z1 : Nat) (z2 : Int) (z3 : Int) (z4 : List (Option (Int × Int))) (k : AVal → List Blk → Option R) : contOf (C_DelaySpans fu l len a b) G31 (bodyOf Try.f7) [1, 1, 1, 1, 1, 1, 0, 1, 0] (retK tis F7 Try.f7 (List.length ([.rows (.int .i64) l true] : List Blk)) k) (Ex.ret) (S.DelaySpans_x0_0 l len a b (z0) (z1) (z2) (z3) (z4)) =
  (k (.bool false) ([.rows (Cd.int .i64) l true])) := by kernel_rfl
def S.DelaySpans_a0_0 (fu : Nat) (l : List Int) (len : Nat) (a b : Int) (z0 : Nat) (z1 : Nat) (z2 : Int) (z3 : Int) (z4 : List (Option (Int × Int))) : Option (Bool) :=
  some (false)
theorem S.DelaySpans_a0_0_v {R : Type} (fu : Nat) (l : List Int) (len : Nat) (a b : Int) (z0 : Nat) (z1 : Nat) (z2 : Int) (z3 : Int) (z4 : List (Option (Int × Int))) (k : AVal → List Blk → Option R) : contOf (C_DelaySpans fu l len a b) G31 (bodyOf Try.f7) [1, 1, 1, 1, 1, 1, 0, 1, 0] (retK tis F7 Try.f7 (List.length ([.rows (.int .i64) l true] : List Blk)) k) (Ex.ret) (S.DelaySpans_x0_0 l len a b (z0) (z1) (z2) (z3) (z4)) = oK (fun v : Bool => k (.bool v) [(.rows (Cd.int .i64) l true)]) (S.DelaySpans_a0_0 fu l len a b z0 z1 z2 z3 z4) :=
  (S.DelaySpans_a0_0_k fu l len a b z0 z1 z2 z3 z4 k).trans rfl
theorem S.DelaySpans_k {R : Type} (fu : Nat) (l : List Int) (len : Nat) (a b : Int) (k : AVal → List Blk → Option R) : fnEval tis F7 fu G31 Try.f7 [.slice 1 0 0 len none, .int .i64 a, .int .i64 b] [.rows (.int .i64) l true] k =
  (bif decide (Go.IntKind.wrap .i64 (Int.tmod (Go.IntKind.wrap .u64 b) 61) < Go.IntKind.wrap .i64 (Int.tmod (Go.IntKind.wrap .u64 a) 61)) then
    (Sum.elim (fun o3 : Unit =>
    k (.bool false) ([.rows (Cd.int .i64) l true])) (fun o3 : Int =>
    loopRun (C_DelaySpans fu l len a b) G31 S.DelaySpans_b0 fu (S.DelaySpans_s0 l len a b (Go.IntKind.wrap .i64 (Int.tmod (Go.IntKind.wrap .u64 a) 61)) (0) (0) (0) (o3) (0) ([])) (contOf (C_DelaySpans fu l len a b) G31 (bodyOf Try.f7) [1, 1, 1, 1, 1, 1, 0, 1, 0] (retK tis F7 Try.f7 (List.length ([.rows (.int .i64) l true] : List Blk)) k))) (S.dnew (Go.IntKind.wrap .i64 (Int.tmod (Go.IntKind.wrap .u64 b) 61))))
  else
    (Sum.elim (fun o3 : Unit =>
    k (.bool false) ([.rows (Cd.int .i64) l true])) (fun o3 : Int =>
    loopRun (C_DelaySpans fu l len a b) G31 S.DelaySpans_b0 fu (S.DelaySpans_s0 l len a b (Go.IntKind.wrap .i64 (Int.tmod (Go.IntKind.wrap .u64 b) 61)) (0) (0) (0) (o3) (0) ([])) (contOf (C_DelaySpans fu l len a b) G31 (bodyOf Try.f7) [1, 1, 1, 1, 1, 1, 0, 1, 0] (retK tis F7 Try.f7 (List.length ([.rows (.int .i64) l true] : List Blk)) k))) (S.dnew (Go.IntKind.wrap .i64 (Int.tmod (Go.IntKind.wrap .u64 a) 61))))) := by kernel_rfl
def S.DelaySpans (fu : Nat) (l : List Int) (len : Nat) (a b : Int) : Option (Bool) :=
  bif decide (Go.IntKind.wrap .i64 (Int.tmod (Go.IntKind.wrap .u64 b) 61) < Go.IntKind.wrap .i64 (Int.tmod (Go.IntKind.wrap .u64 a) 61)) then
    (Sum.elim (fun o3 : Unit =>
    some (false)) (fun o3 : Int =>
    optK (S.DelaySpans_l0 fu l len a b fu (Go.IntKind.wrap .i64 (Int.tmod (Go.IntKind.wrap .u64 a) 61)) (0) (0) (0) (o3) (0) ([])) (Sum.elim (fun z : Nat × Nat × Int × Int × List (Option (Int × Int)) => S.DelaySpans_a0_0 fu l len a b (z.1) (z.2.1) (z.2.2.1) (z.2.2.2.1) (z.2.2.2.2)) (fun z : Int × Int × Int × Bool × Nat × Int × Int × List (Option (Int × Int)) => S.DelaySpans_a0_1 fu l len a b (z.1) (z.2.1) (z.2.2.1) (z.2.2.2.1) (z.2.2.2.2.1) (z.2.2.2.2.2.1) (z.2.2.2.2.2.2.1) (z.2.2.2.2.2.2.2)))) (S.dnew (Go.IntKind.wrap .i64 (Int.tmod (Go.IntKind.wrap .u64 b) 61))))
  else
    (Sum.elim (fun o3 : Unit =>
    some (false)) (fun o3 : Int =>
    optK (S.DelaySpans_l0 fu l len a b fu (Go.IntKind.wrap .i64 (Int.tmod (Go.IntKind.wrap .u64 b) 61)) (0) (0) (0) (o3) (0) ([])) (Sum.elim (fun z : Nat × Nat × Int × Int × List (Option (Int × Int)) => S.DelaySpans_a0_0 fu l len a b (z.1) (z.2.1) (z.2.2.1) (z.2.2.2.1) (z.2.2.2.2)) (fun z : Int × Int × Int × Bool × Nat × Int × Int × List (Option (Int × Int)) => S.DelaySpans_a0_1 fu l len a b (z.1) (z.2.1) (z.2.2.1) (z.2.2.2.1) (z.2.2.2.2.1) (z.2.2.2.2.2.1) (z.2.2.2.2.2.2.1) (z.2.2.2.2.2.2.2)))) (S.dnew (Go.IntKind.wrap .i64 (Int.tmod (Go.IntKind.wrap .u64 a) 61))))
theorem S.DelaySpans_v {R : Type} (fu : Nat) (l : List Int) (len : Nat) (a b : Int) (k : AVal → List Blk → Option R) : fnEval tis F7 fu G31 Try.f7 [.slice 1 0 0 len none, .int .i64 a, .int .i64 b] [.rows (.int .i64) l true] k = oK (fun v : Bool => k (.bool v) [(.rows (Cd.int .i64) l true)]) (S.DelaySpans fu l len a b) :=
  (S.DelaySpans_k fu l len a b k).trans (by
      unfold S.DelaySpans
      refine bif_lift (f := (oK (fun v : Bool => k (.bool v) [(.rows (Cd.int .i64) l true)]))) ?_ ?_
      · 
        refine sumF_lift (f := (oK (fun v : Bool => k (.bool v) [(.rows (Cd.int .i64) l true)]))) (fun o3 => ?_) (fun o3 => ?_) _
        · 
          exact rfl
        · 
          exact (arr_lift (S.DelaySpans_l0_v fu l len a b (contOf (C_DelaySpans fu l len a b) G31 (bodyOf Try.f7) [1, 1, 1, 1, 1, 1, 0, 1, 0] (retK tis F7 Try.f7 (List.length ([.rows (.int .i64) l true] : List Blk)) k)) fu (Go.IntKind.wrap .i64 (Int.tmod (Go.IntKind.wrap .u64 a) 61)) (0) (0) (0) (o3) (0) ([])) ((sum_lift (fun z => S.DelaySpans_a0_0_v fu l len a b (z.1) (z.2.1) (z.2.2.1) (z.2.2.2.1) (z.2.2.2.2) k) (fun z => S.DelaySpans_a0_1_v fu l len a b (z.1) (z.2.1) (z.2.2.1) (z.2.2.2.1) (z.2.2.2.2.1) (z.2.2.2.2.2.1) (z.2.2.2.2.2.2.1) (z.2.2.2.2.2.2.2) k))))
      · 
        refine sumF_lift (f := (oK (fun v : Bool => k (.bool v) [(.rows (Cd.int .i64) l true)]))) (fun o3 => ?_) (fun o3 => ?_) _
        · 
          exact rfl
        · 
          exact (arr_lift (S.DelaySpans_l0_v fu l len a b (contOf (C_DelaySpans fu l len a b) G31 (bodyOf Try.f7) [1, 1, 1, 1, 1, 1, 0, 1, 0] (retK tis F7 Try.f7 (List.length ([.rows (.int .i64) l true] : List Blk)) k)) fu (Go.IntKind.wrap .i64 (Int.tmod (Go.IntKind.wrap .u64 b) 61)) (0) (0) (0) (o3) (0) ([])) ((sum_lift (fun z => S.DelaySpans_a0_0_v fu l len a b (z.1) (z.2.1) (z.2.2.1) (z.2.2.2.1) (z.2.2.2.2) k) (fun z => S.DelaySpans_a0_1_v fu l len a b (z.1) (z.2.1) (z.2.2.1) (z.2.2.2.1) (z.2.2.2.2.1) (z.2.2.2.2.2.1) (z.2.2.2.2.2.2.1) (z.2.2.2.2.2.2.2) k))))
      )
def H7 : Hnd := fun R args σ k => match args, σ with
  | [.slice 1 0 0 len none, .int .i64 a, .int .i64 b], [.rows (.int .i64) l true] => oK (fun v : Bool => k (.bool v) [(.rows (Cd.int .i64) l true)]) (S.DelaySpans 100000 l len a b)
  | _, _ => none
theorem H7_ok : HndOk Try.prog 7 H7 := hnd_ok tis tisOk mixOk G31_ok F7 Try.func7 rfl (by
  intro R args σ k r h
  unfold H7 at h
  split at h
  · rename_i len a b l; exact ⟨100000, (S.DelaySpans_v 100000 l len a b _).trans h⟩
  · cases h)
def G7 : Env := Env.add 7 H7 G31
theorem G7_ok : EnvOk Try.prog G7 := envAdd_ok H7_ok G31_ok
end Go.Proofs.Ytfoaihjkmfhaoaa.AB
