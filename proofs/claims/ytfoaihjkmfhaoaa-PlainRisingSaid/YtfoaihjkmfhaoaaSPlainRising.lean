/- PlainRising, as a plain function. -/
import Derived.Test.YtfoaihjkmfhaoaaSplainz
namespace Go.Proofs.Ytfoaihjkmfhaoaa.AB
set_option linter.unusedVariables false

/-! spinnakerlaw6.PlainRising -/
def F3 : FCfg := ⟨keepAt [(0, [0, 1]), (1, [0, 5]), (2, [0, 5, 6]), (3, [0, 5, 6, 7]), (4, [0, 5, 6, 7, 8]), (5, [0, 5, 6, 7, 8, 28]), (6, [0, 5, 6, 7, 8]), (7, [0, 5, 6, 7, 8]), (8, [0, 5, 6, 7, 8]), (9, [5, 6, 7, 9, 10]), (10, [5, 6, 7, 9, 10, 11]), (11, [5, 6, 7, 9, 10, 11, 50]), (12, [5, 6, 7, 9, 10, 11]), (13, [5, 6, 7, 9, 10, 11, 61]), (14, [5, 6, 7, 9, 10, 11]), (15, [5, 6, 9, 10, 12, 13]), (16, [9, 10, 12, 13, 14, 15]), (17, [4])], loopAt [(5, [0, 5, 6, 7, 8], [⟨true, 6, 0, (.pair (.int .i64) (.int .i64))⟩]), (11, [5, 6, 7, 9, 10, 11], [])], []⟩
noncomputable def C_PlainRising (fu : Nat) (l : List Int) (len : Nat) (w : Int) : Cfg := Cfg.of tis F3 fu (List.length ([.rows (.int .i64) l true] : List Blk)) Try.f3.ntmps
noncomputable def S.PlainRising_b0 : Code := codeAt (bodyOf Try.f3) [1, 1, 1, 1, 0, 1, 0, 0]
noncomputable def S.PlainRising_b1 : Code := codeAt (bodyOf Try.f3) [1, 1, 1, 1, 1, 1, 0, 1, 0, 0]
noncomputable def S.PlainRising_s0 (l : List Int) (len : Nat) (w : Int) (y0 : Nat) (y1 : Int) (y2 : Int) (y3 : List (Int × Int)) : St := ⟨[(0, (.slice 1 0 (0) (len) none)), (5, (.int .i64 (Go.IntKind.wrap .i64 (1 + Go.IntKind.wrap .i64 (Int.tmod (Go.IntKind.wrap .u64 w) 30))))), (6, (.slice 2 1 (0) (y0) none)), (7, (.int .i64 (y1))), (8, (.int .i64 (y2)))], [(.rows (Cd.int .i64) l true), (.rows (Cd.pair (Cd.int .i64) (Cd.int .i64)) (y3) false)]⟩
noncomputable def S.PlainRising_x0_0 (l : List Int) (len : Nat) (w : Int) (z0 : Nat) (z1 : Int) (z2 : Int) (z3 : Bool) (z4 : List (Int × Int)) : St := ⟨[(0, (.slice 1 0 (0) (len) none)), (5, (.int .i64 (Go.IntKind.wrap .i64 (1 + Go.IntKind.wrap .i64 (Int.tmod (Go.IntKind.wrap .u64 w) 30))))), (6, (.slice 2 1 (0) (z0) none)), (7, (.int .i64 (z1))), (8, (.int .i64 (z2))), (28, (.bool (z3)))], [(.rows (Cd.int .i64) l true), (.rows (Cd.pair (Cd.int .i64) (Cd.int .i64)) (z4) false)]⟩
noncomputable def S.PlainRising_s1 (l : List Int) (len : Nat) (w : Int) (y0 : Nat) (y1 : Int) (y2 : Int) (y3 : Int) (y4 : Int) (y5 : List (Int × Int)) : St := ⟨[(5, (.int .i64 (Go.IntKind.wrap .i64 (1 + Go.IntKind.wrap .i64 (Int.tmod (Go.IntKind.wrap .u64 w) 30))))), (6, (.slice 2 1 (0) (y0) none)), (7, (.int .i64 (y1))), (9, (.int .i64 (y2))), (10, (.int .i64 (y3))), (11, (.int .i64 (y4)))], [(.rows (Cd.int .i64) l true), (.rows (Cd.pair (Cd.int .i64) (Cd.int .i64)) (y5) false)]⟩
noncomputable def S.PlainRising_x1_0 (l : List Int) (len : Nat) (w : Int) (z0 : Nat) (z1 : Int) (z2 : Int) (z3 : Int) (z4 : Int) (z5 : Bool) (z6 : List (Int × Int)) : St := ⟨[(5, (.int .i64 (Go.IntKind.wrap .i64 (1 + Go.IntKind.wrap .i64 (Int.tmod (Go.IntKind.wrap .u64 w) 30))))), (6, (.slice 2 1 (0) (z0) none)), (7, (.int .i64 (z1))), (9, (.int .i64 (z2))), (10, (.int .i64 (z3))), (11, (.int .i64 (z4))), (50, (.bool (z5)))], [(.rows (Cd.int .i64) l true), (.rows (Cd.pair (Cd.int .i64) (Cd.int .i64)) (z6) false)]⟩
theorem S.PlainRising_l1_k {R : Type} (fu : Nat) (l : List Int) (len : Nat) (w : Int) (n : Nat) (K : Ex → St → Option R) (y0 : Nat) (y1 : Int) (y2 : Int) (y3 : Int) (y4 : Int) (y5 : List (Int × Int)) : loopRun (C_PlainRising fu l len w) G18s S.PlainRising_b1 (n + 1) (S.PlainRising_s1 l len w (y0) (y1) (y2) (y3) (y4) (y5)) K =
  (bif decide (y4 < ((y0 : Nat) : Int)) then
    bif inB y4 y0 then
      (optK (y5[Int.toNat y4 + 0]?) fun o4 =>
        bif decide (Go.IntKind.wrap .i64 (y1 - Go.IntKind.wrap .i64 (1 + Go.IntKind.wrap .i64 (Int.tmod (Go.IntKind.wrap .u64 w) 30))) < Prod.fst o4) then
          bif inB y4 y0 then
            (optK (y5[Int.toNat y4 + 0]?) fun o7 =>
              loopRun (C_PlainRising fu l len w) G18s S.PlainRising_b1 n (S.PlainRising_s1 l len w (y0) (y1) (Go.IntKind.wrap .i64 (y2 + Prod.snd o7)) (Go.IntKind.wrap .i64 (y3 + 1)) (Go.IntKind.wrap .i64 (y4 + 1)) (y5)) K)
          else
            none
        else
          loopRun (C_PlainRising fu l len w) G18s S.PlainRising_b1 n (S.PlainRising_s1 l len w (y0) (y1) (y2) (y3) (Go.IntKind.wrap .i64 (y4 + 1)) (y5)) K)
    else
      none
  else
    K (Ex.exit 2) (S.PlainRising_x1_0 l len w (y0) (y1) (y2) (y3) (y4) (decide (y4 < ((y0 : Nat) : Int))) (y5))) := by kernel_rfl
noncomputable def S.PlainRising_l1 (fu : Nat) (l : List Int) (len : Nat) (w : Int) : Nat → (Nat) → (Int) → (Int) → (Int) → (Int) → (List (Int × Int)) → Option ((Nat × Int × Int × Int × Int × Bool × List (Int × Int)))
  | 0, _, _, _, _, _, _ => none
  | n + 1, y0, y1, y2, y3, y4, y5 =>
    bif decide (y4 < ((y0 : Nat) : Int)) then
      bif inB y4 y0 then
        (optK (y5[Int.toNat y4 + 0]?) fun o4 =>
          bif decide (Go.IntKind.wrap .i64 (y1 - Go.IntKind.wrap .i64 (1 + Go.IntKind.wrap .i64 (Int.tmod (Go.IntKind.wrap .u64 w) 30))) < Prod.fst o4) then
            bif inB y4 y0 then
              (optK (y5[Int.toNat y4 + 0]?) fun o7 =>
                (S.PlainRising_l1 fu l len w n) (y0) (y1) (Go.IntKind.wrap .i64 (y2 + Prod.snd o7)) (Go.IntKind.wrap .i64 (y3 + 1)) (Go.IntKind.wrap .i64 (y4 + 1)) (y5))
            else
              none
          else
            (S.PlainRising_l1 fu l len w n) (y0) (y1) (y2) (y3) (Go.IntKind.wrap .i64 (y4 + 1)) (y5))
      else
        none
    else
      some (y0, y1, y2, y3, y4, decide (y4 < ((y0 : Nat) : Int)), y5)
theorem S.PlainRising_l1_v {R : Type} (fu : Nat) (l : List Int) (len : Nat) (w : Int) (K : Ex → St → Option R) : ∀ (n : Nat) (y0 : Nat) (y1 : Int) (y2 : Int) (y3 : Int) (y4 : Int) (y5 : List (Int × Int)), loopRun (C_PlainRising fu l len w) G18s S.PlainRising_b1 n (S.PlainRising_s1 l len w (y0) (y1) (y2) (y3) (y4) (y5)) K = oK (β := (Nat × Int × Int × Int × Int × Bool × List (Int × Int))) (fun z : Nat × Int × Int × Int × Int × Bool × List (Int × Int) => K (Ex.exit 2) (S.PlainRising_x1_0 l len w (z.1) (z.2.1) (z.2.2.1) (z.2.2.2.1) (z.2.2.2.2.1) (z.2.2.2.2.2.1) (z.2.2.2.2.2.2))) (S.PlainRising_l1 fu l len w n y0 y1 y2 y3 y4 y5)
  | 0, _, _, _, _, _, _ => rfl
  | n + 1, y0, y1, y2, y3, y4, y5 => (S.PlainRising_l1_k fu l len w n K y0 y1 y2 y3 y4 y5).trans (bif_lift (f := (oK (β := (Nat × Int × Int × Int × Int × Bool × List (Int × Int))) (fun z : Nat × Int × Int × Int × Int × Bool × List (Int × Int) => K (Ex.exit 2) (S.PlainRising_x1_0 l len w (z.1) (z.2.1) (z.2.2.1) (z.2.2.2.1) (z.2.2.2.2.1) (z.2.2.2.2.2.1) (z.2.2.2.2.2.2))))) (bif_lift (f := (oK (β := (Nat × Int × Int × Int × Int × Bool × List (Int × Int))) (fun z : Nat × Int × Int × Int × Int × Bool × List (Int × Int) => K (Ex.exit 2) (S.PlainRising_x1_0 l len w (z.1) (z.2.1) (z.2.2.1) (z.2.2.2.1) (z.2.2.2.2.1) (z.2.2.2.2.2.1) (z.2.2.2.2.2.2))))) (opt_lift fun o4 => (bif_lift (f := (oK (β := (Nat × Int × Int × Int × Int × Bool × List (Int × Int))) (fun z : Nat × Int × Int × Int × Int × Bool × List (Int × Int) => K (Ex.exit 2) (S.PlainRising_x1_0 l len w (z.1) (z.2.1) (z.2.2.1) (z.2.2.2.1) (z.2.2.2.2.1) (z.2.2.2.2.2.1) (z.2.2.2.2.2.2))))) (bif_lift (f := (oK (β := (Nat × Int × Int × Int × Int × Bool × List (Int × Int))) (fun z : Nat × Int × Int × Int × Int × Bool × List (Int × Int) => K (Ex.exit 2) (S.PlainRising_x1_0 l len w (z.1) (z.2.1) (z.2.2.1) (z.2.2.2.1) (z.2.2.2.2.1) (z.2.2.2.2.2.1) (z.2.2.2.2.2.2))))) (opt_lift fun o7 => (S.PlainRising_l1_v fu l len w K n (y0) (y1) (Go.IntKind.wrap .i64 (y2 + Prod.snd o7)) (Go.IntKind.wrap .i64 (y3 + 1)) (Go.IntKind.wrap .i64 (y4 + 1)) (y5))) rfl) (S.PlainRising_l1_v fu l len w K n (y0) (y1) (y2) (y3) (Go.IntKind.wrap .i64 (y4 + 1)) (y5)))) rfl) rfl)
theorem S.PlainRising_a1_0_k {R : Type} (fu : Nat) (l : List Int) (len : Nat) (w : Int) (z0 : Nat) (z1 : Int) (z2 : Int) (z3 : Int) (z4 : Int) (z5 : Bool) (z6 : List (Int × Int)) (k : AVal → List Blk → Option R) : contOf (C_PlainRising fu l len w) G18s (bodyOf Try.f3) [1, 1, 1, 1, 1, 1, 0, 1, 0] (retK tis F3 Try.f3 (List.length ([.rows (.int .i64) l true] : List Blk)) k) (Ex.exit 2) (S.PlainRising_x1_0 l len w (z0) (z1) (z2) (z3) (z4) (z5) (z6)) =
  ((optK (S.q_psum 100000 z6 0 z0 false (Go.IntKind.wrap .i64 (1 + Go.IntKind.wrap .i64 (Int.tmod (Go.IntKind.wrap .u64 w) 30))) 1 z1) fun o2 =>
    (optK (S.q_psum 100000 (Prod.snd (Prod.snd o2)) 0 z0 false (Go.IntKind.wrap .i64 (1 + Go.IntKind.wrap .i64 (Int.tmod (Go.IntKind.wrap .u64 w) 30))) 1 (-1)) fun o3 =>
      bif decide (Prod.fst o2 = z2) then
        bif decide (Prod.fst (Prod.snd o2) = z3) then
          bif decide (Prod.fst o3 = 0) then
            k (.bool (decide (Prod.fst (Prod.snd o3) = 0))) ([.rows (Cd.int .i64) l true])
          else
            k (.bool false) ([.rows (Cd.int .i64) l true])
        else
          k (.bool false) ([.rows (Cd.int .i64) l true])
      else
        k (.bool false) ([.rows (Cd.int .i64) l true])))) := by kernel_rfl
noncomputable def S.PlainRising_a1_0 (fu : Nat) (l : List Int) (len : Nat) (w : Int) (z0 : Nat) (z1 : Int) (z2 : Int) (z3 : Int) (z4 : Int) (z5 : Bool) (z6 : List (Int × Int)) : Option (Bool) :=
  (optK (S.q_psum 100000 z6 0 z0 false (Go.IntKind.wrap .i64 (1 + Go.IntKind.wrap .i64 (Int.tmod (Go.IntKind.wrap .u64 w) 30))) 1 z1) fun o2 =>
    (optK (S.q_psum 100000 (Prod.snd (Prod.snd o2)) 0 z0 false (Go.IntKind.wrap .i64 (1 + Go.IntKind.wrap .i64 (Int.tmod (Go.IntKind.wrap .u64 w) 30))) 1 (-1)) fun o3 =>
      bif decide (Prod.fst o2 = z2) then
        bif decide (Prod.fst (Prod.snd o2) = z3) then
          bif decide (Prod.fst o3 = 0) then
            some (decide (Prod.fst (Prod.snd o3) = 0))
          else
            some (false)
        else
          some (false)
      else
        some (false)))
theorem S.PlainRising_a1_0_v {R : Type} (fu : Nat) (l : List Int) (len : Nat) (w : Int) (z0 : Nat) (z1 : Int) (z2 : Int) (z3 : Int) (z4 : Int) (z5 : Bool) (z6 : List (Int × Int)) (k : AVal → List Blk → Option R) : contOf (C_PlainRising fu l len w) G18s (bodyOf Try.f3) [1, 1, 1, 1, 1, 1, 0, 1, 0] (retK tis F3 Try.f3 (List.length ([.rows (.int .i64) l true] : List Blk)) k) (Ex.exit 2) (S.PlainRising_x1_0 l len w (z0) (z1) (z2) (z3) (z4) (z5) (z6)) = oK (fun v : Bool => k (.bool v) [(.rows (Cd.int .i64) l true)]) (S.PlainRising_a1_0 fu l len w z0 z1 z2 z3 z4 z5 z6) :=
  (S.PlainRising_a1_0_k fu l len w z0 z1 z2 z3 z4 z5 z6 k).trans (opt_lift fun o2 => (opt_lift fun o3 => (bif_lift (f := (oK (fun v : Bool => k (.bool v) [(.rows (Cd.int .i64) l true)]))) (bif_lift (f := (oK (fun v : Bool => k (.bool v) [(.rows (Cd.int .i64) l true)]))) (bif_lift (f := (oK (fun v : Bool => k (.bool v) [(.rows (Cd.int .i64) l true)]))) rfl rfl) rfl) rfl)))
theorem S.PlainRising_l0_k {R : Type} (fu : Nat) (l : List Int) (len : Nat) (w : Int) (n : Nat) (K : Ex → St → Option R) (y0 : Nat) (y1 : Int) (y2 : Int) (y3 : List (Int × Int)) : loopRun (C_PlainRising fu l len w) G18s S.PlainRising_b0 (n + 1) (S.PlainRising_s0 l len w (y0) (y1) (y2) (y3)) K =
  (bif decide (y2 < ((len : Nat) : Int)) then
    bif decide (y2 < 40) then
      bif inB y2 len then
        (optK (l[Int.toNat y2 + 0]?) fun o5 =>
          bif Nat.beq 2 2 && Nat.blt 0 16 && Nat.beq 2 2 && Nat.beq 2 2 && Nat.beq 2 2 && Nat.blt 0 1 && !Nat.beq 1 2 && Nat.ble ((y0 + 1) * 16) 35184372088832 then
            loopRun (C_PlainRising fu l len w) G18s S.PlainRising_b0 n (S.PlainRising_s0 l len w (List.length (cutL y3 0 y0 ++ cutL [(Go.IntKind.wrap .i64 (y1 + Go.IntKind.wrap .i64 (Int.tmod (Go.IntKind.wrap .u64 o5) 10)), Go.IntKind.wrap .i64 (y2 + 1))] 0 1)) (Go.IntKind.wrap .i64 (y1 + Go.IntKind.wrap .i64 (Int.tmod (Go.IntKind.wrap .u64 o5) 10))) (Go.IntKind.wrap .i64 (y2 + 1)) (cutL y3 0 y0 ++ cutL [(Go.IntKind.wrap .i64 (y1 + Go.IntKind.wrap .i64 (Int.tmod (Go.IntKind.wrap .u64 o5) 10)), Go.IntKind.wrap .i64 (y2 + 1))] 0 1)) K
          else
            none)
      else
        none
    else
      K (Ex.exit 0) (S.PlainRising_x0_0 l len w (y0) (y1) (y2) (decide (y2 < 40)) (y3))
  else
    K (Ex.exit 0) (S.PlainRising_x0_0 l len w (y0) (y1) (y2) (false) (y3))) := by kernel_rfl
noncomputable def S.PlainRising_l0 (fu : Nat) (l : List Int) (len : Nat) (w : Int) : Nat → (Nat) → (Int) → (Int) → (List (Int × Int)) → Option ((Nat × Int × Int × Bool × List (Int × Int)))
  | 0, _, _, _, _ => none
  | n + 1, y0, y1, y2, y3 =>
    bif decide (y2 < ((len : Nat) : Int)) then
      bif decide (y2 < 40) then
        bif inB y2 len then
          (optK (l[Int.toNat y2 + 0]?) fun o5 =>
            bif Nat.beq 2 2 && Nat.blt 0 16 && Nat.beq 2 2 && Nat.beq 2 2 && Nat.beq 2 2 && Nat.blt 0 1 && !Nat.beq 1 2 && Nat.ble ((y0 + 1) * 16) 35184372088832 then
              (S.PlainRising_l0 fu l len w n) (List.length (cutL y3 0 y0 ++ cutL [(Go.IntKind.wrap .i64 (y1 + Go.IntKind.wrap .i64 (Int.tmod (Go.IntKind.wrap .u64 o5) 10)), Go.IntKind.wrap .i64 (y2 + 1))] 0 1)) (Go.IntKind.wrap .i64 (y1 + Go.IntKind.wrap .i64 (Int.tmod (Go.IntKind.wrap .u64 o5) 10))) (Go.IntKind.wrap .i64 (y2 + 1)) (cutL y3 0 y0 ++ cutL [(Go.IntKind.wrap .i64 (y1 + Go.IntKind.wrap .i64 (Int.tmod (Go.IntKind.wrap .u64 o5) 10)), Go.IntKind.wrap .i64 (y2 + 1))] 0 1)
            else
              none)
        else
          none
      else
        some (y0, y1, y2, decide (y2 < 40), y3)
    else
      some (y0, y1, y2, false, y3)
theorem S.PlainRising_l0_v {R : Type} (fu : Nat) (l : List Int) (len : Nat) (w : Int) (K : Ex → St → Option R) : ∀ (n : Nat) (y0 : Nat) (y1 : Int) (y2 : Int) (y3 : List (Int × Int)), loopRun (C_PlainRising fu l len w) G18s S.PlainRising_b0 n (S.PlainRising_s0 l len w (y0) (y1) (y2) (y3)) K = oK (β := (Nat × Int × Int × Bool × List (Int × Int))) (fun z : Nat × Int × Int × Bool × List (Int × Int) => K (Ex.exit 0) (S.PlainRising_x0_0 l len w (z.1) (z.2.1) (z.2.2.1) (z.2.2.2.1) (z.2.2.2.2))) (S.PlainRising_l0 fu l len w n y0 y1 y2 y3)
  | 0, _, _, _, _ => rfl
  | n + 1, y0, y1, y2, y3 => (S.PlainRising_l0_k fu l len w n K y0 y1 y2 y3).trans (bif_lift (f := (oK (β := (Nat × Int × Int × Bool × List (Int × Int))) (fun z : Nat × Int × Int × Bool × List (Int × Int) => K (Ex.exit 0) (S.PlainRising_x0_0 l len w (z.1) (z.2.1) (z.2.2.1) (z.2.2.2.1) (z.2.2.2.2))))) (bif_lift (f := (oK (β := (Nat × Int × Int × Bool × List (Int × Int))) (fun z : Nat × Int × Int × Bool × List (Int × Int) => K (Ex.exit 0) (S.PlainRising_x0_0 l len w (z.1) (z.2.1) (z.2.2.1) (z.2.2.2.1) (z.2.2.2.2))))) (bif_lift (f := (oK (β := (Nat × Int × Int × Bool × List (Int × Int))) (fun z : Nat × Int × Int × Bool × List (Int × Int) => K (Ex.exit 0) (S.PlainRising_x0_0 l len w (z.1) (z.2.1) (z.2.2.1) (z.2.2.2.1) (z.2.2.2.2))))) (opt_lift fun o5 => (bif_lift (f := (oK (β := (Nat × Int × Int × Bool × List (Int × Int))) (fun z : Nat × Int × Int × Bool × List (Int × Int) => K (Ex.exit 0) (S.PlainRising_x0_0 l len w (z.1) (z.2.1) (z.2.2.1) (z.2.2.2.1) (z.2.2.2.2))))) (S.PlainRising_l0_v fu l len w K n (List.length (cutL y3 0 y0 ++ cutL [(Go.IntKind.wrap .i64 (y1 + Go.IntKind.wrap .i64 (Int.tmod (Go.IntKind.wrap .u64 o5) 10)), Go.IntKind.wrap .i64 (y2 + 1))] 0 1)) (Go.IntKind.wrap .i64 (y1 + Go.IntKind.wrap .i64 (Int.tmod (Go.IntKind.wrap .u64 o5) 10))) (Go.IntKind.wrap .i64 (y2 + 1)) (cutL y3 0 y0 ++ cutL [(Go.IntKind.wrap .i64 (y1 + Go.IntKind.wrap .i64 (Int.tmod (Go.IntKind.wrap .u64 o5) 10)), Go.IntKind.wrap .i64 (y2 + 1))] 0 1)) rfl)) rfl) rfl) rfl)
theorem S.PlainRising_a0_0_k {R : Type} (fu : Nat) (l : List Int) (len : Nat) (w : Int) (z0 : Nat) (z1 : Int) (z2 : Int) (z3 : Bool) (z4 : List (Int × Int)) (k : AVal → List Blk → Option R) : contOf (C_PlainRising fu l len w) G18s (bodyOf Try.f3) [1, 1, 1, 1, 0, 1, 0] (retK tis F3 Try.f3 (List.length ([.rows (.int .i64) l true] : List Blk)) k) (Ex.exit 0) (S.PlainRising_x0_0 l len w (z0) (z1) (z2) (z3) (z4)) =
  (loopRun (C_PlainRising fu l len w) G18s S.PlainRising_b1 fu (S.PlainRising_s1 l len w (z0) (z1) (0) (0) (0) (z4)) (contOf (C_PlainRising fu l len w) G18s (bodyOf Try.f3) [1, 1, 1, 1, 1, 1, 0, 1, 0] (retK tis F3 Try.f3 (List.length ([.rows (.int .i64) l true] : List Blk)) k))) := by kernel_rfl
noncomputable def S.PlainRising_a0_0 (fu : Nat) (l : List Int) (len : Nat) (w : Int) (z0 : Nat) (z1 : Int) (z2 : Int) (z3 : Bool) (z4 : List (Int × Int)) : Option (Bool) :=
  optK (S.PlainRising_l1 fu l len w fu (z0) (z1) (0) (0) (0) (z4)) (fun z : Nat × Int × Int × Int × Int × Bool × List (Int × Int) => S.PlainRising_a1_0 fu l len w (z.1) (z.2.1) (z.2.2.1) (z.2.2.2.1) (z.2.2.2.2.1) (z.2.2.2.2.2.1) (z.2.2.2.2.2.2))
theorem S.PlainRising_a0_0_v {R : Type} (fu : Nat) (l : List Int) (len : Nat) (w : Int) (z0 : Nat) (z1 : Int) (z2 : Int) (z3 : Bool) (z4 : List (Int × Int)) (k : AVal → List Blk → Option R) : contOf (C_PlainRising fu l len w) G18s (bodyOf Try.f3) [1, 1, 1, 1, 0, 1, 0] (retK tis F3 Try.f3 (List.length ([.rows (.int .i64) l true] : List Blk)) k) (Ex.exit 0) (S.PlainRising_x0_0 l len w (z0) (z1) (z2) (z3) (z4)) = oK (fun v : Bool => k (.bool v) [(.rows (Cd.int .i64) l true)]) (S.PlainRising_a0_0 fu l len w z0 z1 z2 z3 z4) :=
  (S.PlainRising_a0_0_k fu l len w z0 z1 z2 z3 z4 k).trans (arr_lift (S.PlainRising_l1_v fu l len w (contOf (C_PlainRising fu l len w) G18s (bodyOf Try.f3) [1, 1, 1, 1, 1, 1, 0, 1, 0] (retK tis F3 Try.f3 (List.length ([.rows (.int .i64) l true] : List Blk)) k)) fu (z0) (z1) (0) (0) (0) (z4)) ((fun z => S.PlainRising_a1_0_v fu l len w (z.1) (z.2.1) (z.2.2.1) (z.2.2.2.1) (z.2.2.2.2.1) (z.2.2.2.2.2.1) (z.2.2.2.2.2.2) k)))
theorem S.PlainRising_k {R : Type} (fu : Nat) (l : List Int) (len : Nat) (w : Int) (k : AVal → List Blk → Option R) : fnEval tis F3 fu G18s Try.f3 [.slice 1 0 0 len none, .int .i64 w] [.rows (.int .i64) l true] k =
  (loopRun (C_PlainRising fu l len w) G18s S.PlainRising_b0 fu (S.PlainRising_s0 l len w (0) (0) (0) ([])) (contOf (C_PlainRising fu l len w) G18s (bodyOf Try.f3) [1, 1, 1, 1, 0, 1, 0] (retK tis F3 Try.f3 (List.length ([.rows (.int .i64) l true] : List Blk)) k))) := by kernel_rfl
noncomputable def S.PlainRising (fu : Nat) (l : List Int) (len : Nat) (w : Int) : Option (Bool) :=
  optK (S.PlainRising_l0 fu l len w fu (0) (0) (0) ([])) (fun z : Nat × Int × Int × Bool × List (Int × Int) => S.PlainRising_a0_0 fu l len w (z.1) (z.2.1) (z.2.2.1) (z.2.2.2.1) (z.2.2.2.2))
theorem S.PlainRising_v {R : Type} (fu : Nat) (l : List Int) (len : Nat) (w : Int) (k : AVal → List Blk → Option R) : fnEval tis F3 fu G18s Try.f3 [.slice 1 0 0 len none, .int .i64 w] [.rows (.int .i64) l true] k = oK (fun v : Bool => k (.bool v) [(.rows (Cd.int .i64) l true)]) (S.PlainRising fu l len w) :=
  (S.PlainRising_k fu l len w k).trans (arr_lift (S.PlainRising_l0_v fu l len w (contOf (C_PlainRising fu l len w) G18s (bodyOf Try.f3) [1, 1, 1, 1, 0, 1, 0] (retK tis F3 Try.f3 (List.length ([.rows (.int .i64) l true] : List Blk)) k)) fu (0) (0) (0) ([])) ((fun z => S.PlainRising_a0_0_v fu l len w (z.1) (z.2.1) (z.2.2.1) (z.2.2.2.1) (z.2.2.2.2) k)))
noncomputable def H3 : Hnd := fun R args σ k => match args, σ with
  | [.slice 1 0 0 len none, .int .i64 w], [.rows (.int .i64) l true] => oK (fun v : Bool => k (.bool v) [(.rows (Cd.int .i64) l true)]) (S.PlainRising 100000 l len w)
  | _, _ => none
theorem H3_ok : HndOk Try.prog 3 H3 := hnd_ok tis tisOk mixOk G18s_ok F3 Try.func3 rfl (by
  intro R args σ k r h
  unfold H3 at h
  split at h
  · rename_i len w l; exact ⟨100000, (S.PlainRising_v 100000 l len w _).trans h⟩
  · cases h)
noncomputable def G3 : Env := Env.add 3 H3 G18s
theorem G3_ok : EnvOk Try.prog G3 := envAdd_ok H3_ok G18s_ok
end Go.Proofs.Ytfoaihjkmfhaoaa.AB
