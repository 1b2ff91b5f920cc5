/- RingSteady, as a plain function. -/
import Derived.Test.YtmgnfjiogfcieaaSringz
namespace Go.Proofs.Ytmgnfjiogfcieaa.AB
set_option linter.unusedVariables false

/-! spinnakerlaw5.RingSteady -/
def F6 : FCfg := ⟨keepAt [(0, [0, 1, 2, 3]), (1, [1, 2, 3, 9]), (2, [2, 3, 10]), (3, [2, 3, 10, 36]), (4, [8]), (5, [3, 10, 11]), (6, [10, 11, 12]), (7, [10, 11, 12, 13]), (8, [10, 11, 12, 13, 48]), (9, [10, 11, 12, 13]), (10, [10, 11, 12, 13, 62]), (11, [8]), (12, [10, 11, 12, 14, 15]), (13, [8])], loopAt [(8, [10, 11, 12, 13], [⟨1, true, 10, [], 0, (.pair (.int .i64) (.pair (.int .i64) (.pair (.int .i64) .bool))), some 57⟩])], []⟩
noncomputable def C_RingSteady (fu : Nat) (w g v c : Int) : Cfg := Cfg.of tis F6 fu (List.length ([] : List Blk)) Try.f6.ntmps
noncomputable def S.RingSteady_b0 : Code := codeAt (bodyOf Try.f6) [1, 1, 1, 1, 1, 1, 0, 1, 0, 0]
noncomputable def S.RingSteady_s0 (w g v c : Int) (y0 : Int) (y1 : Nat) (y2 : Nat) (y3 : Int) (y4 : Int) (y5 : Int) (y6 : Int) (y7 : Bool) (y8 : List (Option Nat)) (y9 : List (Int × Int × Int × Bool)) : St := ⟨[(10, (.ptr 0 (0) 0)), (11, (.int .i64 (Go.IntKind.wrap .i64 (Int.tmod (Go.IntKind.wrap .u64 v) 1000000000)))), (12, (.int .i64 (Go.IntKind.wrap .i64 (1 + Go.IntKind.wrap .i64 (Int.tmod (Go.IntKind.wrap .u64 c) 200))))), (13, (.int .i64 (y0)))], [(.var [(.slice 1 1 (y1) (y2) none), (.int .i64 (y3)), (.int .i64 (y4)), (.int .i64 (y5)), (.int .i64 (y6)), (.bool (y7))]), (.fam 57 (Cd.pair (Cd.int .i64) (Cd.pair (Cd.int .i64) (Cd.pair (Cd.int .i64) Cd.bool))) (y8) (y9))]⟩
noncomputable def S.RingSteady_x0_0 (w g v c : Int) (z0 : Nat) (z1 : Nat) (z2 : Int) (z3 : Int) (z4 : Int) (z5 : Int) (z6 : Bool) (z7 : List (Option Nat)) (z8 : List (Int × Int × Int × Bool)) : St := ⟨[(8, (.bool (false)))], [(.var [(.slice 1 2 (z0) (z1) none), (.int .i64 (z2)), (.int .i64 (z3)), (.int .i64 (z4)), (.int .i64 (z5)), (.bool (z6))]), .dead, (.fam 57 (Cd.pair (Cd.int .i64) (Cd.pair (Cd.int .i64) (Cd.pair (Cd.int .i64) Cd.bool))) (z7) (z8))]⟩
noncomputable def S.RingSteady_x0_1 (w g v c : Int) (z0 : Int) (z1 : Bool) (z2 : Nat) (z3 : Nat) (z4 : Int) (z5 : Int) (z6 : Int) (z7 : Int) (z8 : Bool) (z9 : List (Option Nat)) (z10 : List (Int × Int × Int × Bool)) : St := ⟨[(10, (.ptr 0 (0) 0)), (11, (.int .i64 (Go.IntKind.wrap .i64 (Int.tmod (Go.IntKind.wrap .u64 v) 1000000000)))), (12, (.int .i64 (Go.IntKind.wrap .i64 (1 + Go.IntKind.wrap .i64 (Int.tmod (Go.IntKind.wrap .u64 c) 200))))), (13, (.int .i64 (z0))), (48, (.bool (z1)))], [(.var [(.slice 1 1 (z2) (z3) none), (.int .i64 (z4)), (.int .i64 (z5)), (.int .i64 (z6)), (.int .i64 (z7)), (.bool (z8))]), (.fam 57 (Cd.pair (Cd.int .i64) (Cd.pair (Cd.int .i64) (Cd.pair (Cd.int .i64) Cd.bool))) (z9) (z10))]⟩
noncomputable def S.RingSteady_g0 {R : Type} (w g v c : Int) (K : Ex → St → Option R) : ((Nat × Nat × Int × Int × Int × Int × Bool × List (Option Nat) × List (Int × Int × Int × Bool)) ⊕ (Int × Bool × Nat × Nat × Int × Int × Int × Int × Bool × List (Option Nat) × List (Int × Int × Int × Bool))) → Option R := (Sum.elim (fun z : Nat × Nat × Int × Int × Int × Int × Bool × List (Option Nat) × List (Int × Int × Int × Bool) => K (Ex.ret) (S.RingSteady_x0_0 w g v c (z.1) (z.2.1) (z.2.2.1) (z.2.2.2.1) (z.2.2.2.2.1) (z.2.2.2.2.2.1) (z.2.2.2.2.2.2.1) (z.2.2.2.2.2.2.2.1) (z.2.2.2.2.2.2.2.2))) (fun z : Int × Bool × Nat × Nat × Int × Int × Int × Int × Bool × List (Option Nat) × List (Int × Int × Int × Bool) => K (Ex.exit 0) (S.RingSteady_x0_1 w g v c (z.1) (z.2.1) (z.2.2.1) (z.2.2.2.1) (z.2.2.2.2.1) (z.2.2.2.2.2.1) (z.2.2.2.2.2.2.1) (z.2.2.2.2.2.2.2.1) (z.2.2.2.2.2.2.2.2.1) (z.2.2.2.2.2.2.2.2.2.1) (z.2.2.2.2.2.2.2.2.2.2))))
noncomputable def S.RingSteady_gk {R : Type} (w g v c : Int) (k : AVal → List Blk → Option R) : (Bool) → Option R := (fun v : Bool => k (.bool v) [])
theorem S.RingSteady_l0_k {R : Type} (fu : Nat) (w g v c : Int) (n : Nat) (K : Ex → St → Option R) (y0 : Int) (y1 : Nat) (y2 : Nat) (y3 : Int) (y4 : Int) (y5 : Int) (y6 : Int) (y7 : Bool) (y8 : List (Option Nat)) (y9 : List (Int × Int × Int × Bool)) : loopRun (C_RingSteady fu w g v c) G21s S.RingSteady_b0 (n + 1) (S.RingSteady_s0 w g v c (y0) (y1) (y2) (y3) (y4) (y5) (y6) (y7) (y8) (y9)) K =
  (bif decide (y0 < Go.IntKind.wrap .i64 (1 + Go.IntKind.wrap .i64 (Int.tmod (Go.IntKind.wrap .u64 c) 200))) then
    (optK (S.q_rp y8 y9 y1 y2 y3 y4 y5 y6 y7 y0 (Go.IntKind.wrap .i64 (Int.tmod (Go.IntKind.wrap .u64 v) 1000000000))) fun o3 =>
      bif !decide (o3.1 = 0) then
        K (Ex.ret) (S.RingSteady_x0_0 w g v c (o3.2.1) (o3.2.2.1) (o3.2.2.2.1) (o3.2.2.2.2.1) (o3.2.2.2.2.2.1) (o3.2.2.2.2.2.2.1) (o3.2.2.2.2.2.2.2.1) (o3.2.2.2.2.2.2.2.2.1) (o3.2.2.2.2.2.2.2.2.2))
      else
        (optK (S.q_rm o3.2.2.2.2.2.2.2.2.1 o3.2.2.2.2.2.2.2.2.2 o3.2.1 o3.2.2.1 o3.2.2.2.1 o3.2.2.2.2.1 o3.2.2.2.2.2.1 o3.2.2.2.2.2.2.1 o3.2.2.2.2.2.2.2.1 y0) fun o5 =>
          bif !decide (o5.1 = Go.IntKind.wrap .i64 (Int.tmod (Go.IntKind.wrap .u64 v) 1000000000)) then
            K (Ex.ret) (S.RingSteady_x0_0 w g v c (o5.2.1) (o5.2.2.1) (o5.2.2.2.1) (o5.2.2.2.2.1) (o5.2.2.2.2.2.1) (o5.2.2.2.2.2.2.1) (o5.2.2.2.2.2.2.2.1) (o5.2.2.2.2.2.2.2.2.1) (o5.2.2.2.2.2.2.2.2.2))
          else
            loopRun (C_RingSteady fu w g v c) G21s S.RingSteady_b0 n (S.RingSteady_s0 w g v c (Go.IntKind.wrap .i64 (y0 + 1)) (o5.2.1) (o5.2.2.1) (o5.2.2.2.1) (o5.2.2.2.2.1) (o5.2.2.2.2.2.1) (o5.2.2.2.2.2.2.1) (o5.2.2.2.2.2.2.2.1) (o5.2.2.2.2.2.2.2.2.1) (o5.2.2.2.2.2.2.2.2.2)) K))
  else
    K (Ex.exit 0) (S.RingSteady_x0_1 w g v c (y0) (decide (y0 < Go.IntKind.wrap .i64 (1 + Go.IntKind.wrap .i64 (Int.tmod (Go.IntKind.wrap .u64 c) 200)))) (y1) (y2) (y3) (y4) (y5) (y6) (y7) (y8) (y9))) := by kernel_rfl
noncomputable def S.RingSteady_l0 (fu : Nat) (w g v c : Int) : Nat → (Int) → (Nat) → (Nat) → (Int) → (Int) → (Int) → (Int) → (Bool) → (List (Option Nat)) → (List (Int × Int × Int × Bool)) → Option ((Nat × Nat × Int × Int × Int × Int × Bool × List (Option Nat) × List (Int × Int × Int × Bool)) ⊕ (Int × Bool × Nat × Nat × Int × Int × Int × Int × Bool × List (Option Nat) × List (Int × Int × Int × Bool)))
  | 0, _, _, _, _, _, _, _, _, _, _ => none
  | n + 1, y0, y1, y2, y3, y4, y5, y6, y7, y8, y9 =>
    bif decide (y0 < Go.IntKind.wrap .i64 (1 + Go.IntKind.wrap .i64 (Int.tmod (Go.IntKind.wrap .u64 c) 200))) then
      (optK (S.q_rp y8 y9 y1 y2 y3 y4 y5 y6 y7 y0 (Go.IntKind.wrap .i64 (Int.tmod (Go.IntKind.wrap .u64 v) 1000000000))) fun o3 =>
        bif !decide (o3.1 = 0) then
          some (.inl (o3.2.1, o3.2.2.1, o3.2.2.2.1, o3.2.2.2.2.1, o3.2.2.2.2.2.1, o3.2.2.2.2.2.2.1, o3.2.2.2.2.2.2.2.1, o3.2.2.2.2.2.2.2.2.1, o3.2.2.2.2.2.2.2.2.2))
        else
          (optK (S.q_rm o3.2.2.2.2.2.2.2.2.1 o3.2.2.2.2.2.2.2.2.2 o3.2.1 o3.2.2.1 o3.2.2.2.1 o3.2.2.2.2.1 o3.2.2.2.2.2.1 o3.2.2.2.2.2.2.1 o3.2.2.2.2.2.2.2.1 y0) fun o5 =>
            bif !decide (o5.1 = Go.IntKind.wrap .i64 (Int.tmod (Go.IntKind.wrap .u64 v) 1000000000)) then
              some (.inl (o5.2.1, o5.2.2.1, o5.2.2.2.1, o5.2.2.2.2.1, o5.2.2.2.2.2.1, o5.2.2.2.2.2.2.1, o5.2.2.2.2.2.2.2.1, o5.2.2.2.2.2.2.2.2.1, o5.2.2.2.2.2.2.2.2.2))
            else
              (S.RingSteady_l0 fu w g v c n) (Go.IntKind.wrap .i64 (y0 + 1)) (o5.2.1) (o5.2.2.1) (o5.2.2.2.1) (o5.2.2.2.2.1) (o5.2.2.2.2.2.1) (o5.2.2.2.2.2.2.1) (o5.2.2.2.2.2.2.2.1) (o5.2.2.2.2.2.2.2.2.1) (o5.2.2.2.2.2.2.2.2.2)))
    else
      some (.inr (y0, decide (y0 < Go.IntKind.wrap .i64 (1 + Go.IntKind.wrap .i64 (Int.tmod (Go.IntKind.wrap .u64 c) 200))), y1, y2, y3, y4, y5, y6, y7, y8, y9))
theorem S.RingSteady_l0_v {R : Type} (fu : Nat) (w g v c : Int) (K : Ex → St → Option R) : ∀ (n : Nat) (y0 : Int) (y1 : Nat) (y2 : Nat) (y3 : Int) (y4 : Int) (y5 : Int) (y6 : Int) (y7 : Bool) (y8 : List (Option Nat)) (y9 : List (Int × Int × Int × Bool)), loopRun (C_RingSteady fu w g v c) G21s S.RingSteady_b0 n (S.RingSteady_s0 w g v c (y0) (y1) (y2) (y3) (y4) (y5) (y6) (y7) (y8) (y9)) K = oK (β := (Nat × Nat × Int × Int × Int × Int × Bool × List (Option Nat) × List (Int × Int × Int × Bool)) ⊕ (Int × Bool × Nat × Nat × Int × Int × Int × Int × Bool × List (Option Nat) × List (Int × Int × Int × Bool))) (S.RingSteady_g0 w g v c K) (S.RingSteady_l0 fu w g v c n y0 y1 y2 y3 y4 y5 y6 y7 y8 y9)
  | 0, _, _, _, _, _, _, _, _, _, _ => rfl
  | n + 1, y0, y1, y2, y3, y4, y5, y6, y7, y8, y9 => (S.RingSteady_l0_k fu w g v c n K y0 y1 y2 y3 y4 y5 y6 y7 y8 y9).trans (bif_lift (f := (oK (β := (Nat × Nat × Int × Int × Int × Int × Bool × List (Option Nat) × List (Int × Int × Int × Bool)) ⊕ (Int × Bool × Nat × Nat × Int × Int × Int × Int × Bool × List (Option Nat) × List (Int × Int × Int × Bool))) (S.RingSteady_g0 w g v c K))) (opt_lift fun o3 => (bif_lift (f := (oK (β := (Nat × Nat × Int × Int × Int × Int × Bool × List (Option Nat) × List (Int × Int × Int × Bool)) ⊕ (Int × Bool × Nat × Nat × Int × Int × Int × Int × Bool × List (Option Nat) × List (Int × Int × Int × Bool))) (S.RingSteady_g0 w g v c K))) rfl (opt_lift fun o5 => (bif_lift (f := (oK (β := (Nat × Nat × Int × Int × Int × Int × Bool × List (Option Nat) × List (Int × Int × Int × Bool)) ⊕ (Int × Bool × Nat × Nat × Int × Int × Int × Int × Bool × List (Option Nat) × List (Int × Int × Int × Bool))) (S.RingSteady_g0 w g v c K))) rfl (S.RingSteady_l0_v fu w g v c K n (Go.IntKind.wrap .i64 (y0 + 1)) (o5.2.1) (o5.2.2.1) (o5.2.2.2.1) (o5.2.2.2.2.1) (o5.2.2.2.2.2.1) (o5.2.2.2.2.2.2.1) (o5.2.2.2.2.2.2.2.1) (o5.2.2.2.2.2.2.2.2.1) (o5.2.2.2.2.2.2.2.2.2)))))) rfl)
theorem S.RingSteady_a0_1_k {R : Type} (fu : Nat) (w g v c : Int) (z0 : Int) (z1 : Bool) (z2 : Nat) (z3 : Nat) (z4 : Int) (z5 : Int) (z6 : Int) (z7 : Int) (z8 : Bool) (z9 : List (Option Nat)) (z10 : List (Int × Int × Int × Bool)) (k : AVal → List Blk → Option R) : contOf (C_RingSteady fu w g v c) G21s (bodyOf Try.f6) [1, 1, 1, 1, 1, 1, 0, 1, 0] (retK tis F6 Try.f6 (List.length ([] : List Blk)) k) (Ex.exit 0) (S.RingSteady_x0_1 w g v c (z0) (z1) (z2) (z3) (z4) (z5) (z6) (z7) (z8) (z9) (z10)) =
  ((optK (S.q_rs 100000 z9 z10 z2 z3 z4 z5 z6 z7 z8 (Go.IntKind.wrap .i64 (Go.IntKind.wrap .i64 (1 + Go.IntKind.wrap .i64 (Int.tmod (Go.IntKind.wrap .u64 c) 200)) - 1))) fun o2 =>
    bif decide (o2.1 = Go.IntKind.wrap .i64 (Go.IntKind.wrap .i64 (Int.tmod (Go.IntKind.wrap .u64 v) 1000000000) * o2.2.1)) then
      bif decide (1 ≤ o2.2.1) then
        bif decide (o2.2.1 ≤ Go.IntKind.wrap .i64 (1 + Go.IntKind.wrap .i64 (Int.tmod (Go.IntKind.wrap .u64 c) 200))) then
          (optK (S.q_rm o2.2.2.2.2.2.2.2.2.2.1 o2.2.2.2.2.2.2.2.2.2.2 o2.2.2.1 o2.2.2.2.1 o2.2.2.2.2.1 o2.2.2.2.2.2.1 o2.2.2.2.2.2.2.1 o2.2.2.2.2.2.2.2.1 o2.2.2.2.2.2.2.2.2.1 (Go.IntKind.wrap .i64 (Go.IntKind.wrap .i64 (1 + Go.IntKind.wrap .i64 (Int.tmod (Go.IntKind.wrap .u64 c) 200)) + 1000))) fun o6 =>
            k (.bool (decide (o6.1 = 0))) ([]))
        else
          k (.bool false) ([])
      else
        k (.bool false) ([])
    else
      k (.bool false) ([]))) := by kernel_rfl
noncomputable def S.RingSteady_a0_1 (fu : Nat) (w g v c : Int) (z0 : Int) (z1 : Bool) (z2 : Nat) (z3 : Nat) (z4 : Int) (z5 : Int) (z6 : Int) (z7 : Int) (z8 : Bool) (z9 : List (Option Nat)) (z10 : List (Int × Int × Int × Bool)) : Option (Bool) :=
  (optK (S.q_rs 100000 z9 z10 z2 z3 z4 z5 z6 z7 z8 (Go.IntKind.wrap .i64 (Go.IntKind.wrap .i64 (1 + Go.IntKind.wrap .i64 (Int.tmod (Go.IntKind.wrap .u64 c) 200)) - 1))) fun o2 =>
    bif decide (o2.1 = Go.IntKind.wrap .i64 (Go.IntKind.wrap .i64 (Int.tmod (Go.IntKind.wrap .u64 v) 1000000000) * o2.2.1)) then
      bif decide (1 ≤ o2.2.1) then
        bif decide (o2.2.1 ≤ Go.IntKind.wrap .i64 (1 + Go.IntKind.wrap .i64 (Int.tmod (Go.IntKind.wrap .u64 c) 200))) then
          (optK (S.q_rm o2.2.2.2.2.2.2.2.2.2.1 o2.2.2.2.2.2.2.2.2.2.2 o2.2.2.1 o2.2.2.2.1 o2.2.2.2.2.1 o2.2.2.2.2.2.1 o2.2.2.2.2.2.2.1 o2.2.2.2.2.2.2.2.1 o2.2.2.2.2.2.2.2.2.1 (Go.IntKind.wrap .i64 (Go.IntKind.wrap .i64 (1 + Go.IntKind.wrap .i64 (Int.tmod (Go.IntKind.wrap .u64 c) 200)) + 1000))) fun o6 =>
            some (decide (o6.1 = 0)))
        else
          some (false)
      else
        some (false)
    else
      some (false))
theorem S.RingSteady_a0_1_v {R : Type} (fu : Nat) (w g v c : Int) (z0 : Int) (z1 : Bool) (z2 : Nat) (z3 : Nat) (z4 : Int) (z5 : Int) (z6 : Int) (z7 : Int) (z8 : Bool) (z9 : List (Option Nat)) (z10 : List (Int × Int × Int × Bool)) (k : AVal → List Blk → Option R) : contOf (C_RingSteady fu w g v c) G21s (bodyOf Try.f6) [1, 1, 1, 1, 1, 1, 0, 1, 0] (retK tis F6 Try.f6 (List.length ([] : List Blk)) k) (Ex.exit 0) (S.RingSteady_x0_1 w g v c (z0) (z1) (z2) (z3) (z4) (z5) (z6) (z7) (z8) (z9) (z10)) = oK (S.RingSteady_gk w g v c k) (S.RingSteady_a0_1 fu w g v c z0 z1 z2 z3 z4 z5 z6 z7 z8 z9 z10) :=
  (S.RingSteady_a0_1_k fu w g v c z0 z1 z2 z3 z4 z5 z6 z7 z8 z9 z10 k).trans (opt_lift fun o2 => (bif_lift (f := (oK (S.RingSteady_gk w g v c k))) (bif_lift (f := (oK (S.RingSteady_gk w g v c k))) (bif_lift (f := (oK (S.RingSteady_gk w g v c k))) (opt_lift fun o6 => rfl) rfl) rfl) rfl))
theorem S.RingSteady_a0_0_k {R : Type} (fu : Nat) (w g v c : Int) (z0 : Nat) (z1 : Nat) (z2 : Int) (z3 : Int) (z4 : Int) (z5 : Int) (z6 : Bool) (z7 : List (Option Nat)) (z8 : List (Int × Int × Int × Bool)) (k : AVal → List Blk → Option R) : contOf (C_RingSteady fu w g v c) G21s (bodyOf Try.f6) [1, 1, 1, 1, 1, 1, 0, 1, 0] (retK tis F6 Try.f6 (List.length ([] : List Blk)) k) (Ex.ret) (S.RingSteady_x0_0 w g v c (z0) (z1) (z2) (z3) (z4) (z5) (z6) (z7) (z8)) =
  (k (.bool false) ([])) := by kernel_rfl
noncomputable def S.RingSteady_a0_0 (fu : Nat) (w g v c : Int) (z0 : Nat) (z1 : Nat) (z2 : Int) (z3 : Int) (z4 : Int) (z5 : Int) (z6 : Bool) (z7 : List (Option Nat)) (z8 : List (Int × Int × Int × Bool)) : Option (Bool) :=
  some (false)
theorem S.RingSteady_a0_0_v {R : Type} (fu : Nat) (w g v c : Int) (z0 : Nat) (z1 : Nat) (z2 : Int) (z3 : Int) (z4 : Int) (z5 : Int) (z6 : Bool) (z7 : List (Option Nat)) (z8 : List (Int × Int × Int × Bool)) (k : AVal → List Blk → Option R) : contOf (C_RingSteady fu w g v c) G21s (bodyOf Try.f6) [1, 1, 1, 1, 1, 1, 0, 1, 0] (retK tis F6 Try.f6 (List.length ([] : List Blk)) k) (Ex.ret) (S.RingSteady_x0_0 w g v c (z0) (z1) (z2) (z3) (z4) (z5) (z6) (z7) (z8)) = oK (S.RingSteady_gk w g v c k) (S.RingSteady_a0_0 fu w g v c z0 z1 z2 z3 z4 z5 z6 z7 z8) :=
  (S.RingSteady_a0_0_k fu w g v c z0 z1 z2 z3 z4 z5 z6 z7 z8 k).trans rfl
theorem S.RingSteady_k {R : Type} (fu : Nat) (w g v c : Int) (k : AVal → List Blk → Option R) : fnEval tis F6 fu G21s Try.f6 [.int .i64 w, .int .i64 g, .int .i64 v, .int .i64 c] [] k =
  (bif decide (Go.IntKind.wrap .u64 (Go.IntKind.wrap .i64 (1 + Go.IntKind.wrap .i64 (Int.tmod (Go.IntKind.wrap .u64 w) 60))) = 0) then
    none
  else
    (optK (S.q_pring (Go.IntKind.wrap .i64 (1 + Go.IntKind.wrap .i64 (Int.tmod (Go.IntKind.wrap .u64 w) 60))) (Go.IntKind.wrap .i64 (1 + Go.IntKind.wrap .i64 (Int.tmod (Go.IntKind.wrap .u64 g) (Go.IntKind.wrap .u64 (Go.IntKind.wrap .i64 (1 + Go.IntKind.wrap .i64 (Int.tmod (Go.IntKind.wrap .u64 w) 60)))))))) fun o3 =>
      (Sum.elim (fun o4 : Unit =>
    k (.bool false) ([])) (fun o4 : Int × Int × Int =>
    (optK (S.q_rm1 o4.1 o4.2.1 o4.2.2 (-1) false 5) fun o5 =>
          bif !decide (o5.1 = 0) then
            k (.bool false) ([])
          else
            loopRun (C_RingSteady fu w g v c) G21s S.RingSteady_b0 fu (S.RingSteady_s0 w g v c (0) (0) (0) (o5.2.1) (o5.2.2.1) (o5.2.2.2.1) (o5.2.2.2.2.1) (o5.2.2.2.2.2) ([]) ([])) (contOf (C_RingSteady fu w g v c) G21s (bodyOf Try.f6) [1, 1, 1, 1, 1, 1, 0, 1, 0] (retK tis F6 Try.f6 (List.length ([] : List Blk)) k)))) (o3)))) := by kernel_rfl
noncomputable def S.RingSteady (fu : Nat) (w g v c : Int) : Option (Bool) :=
  bif decide (Go.IntKind.wrap .u64 (Go.IntKind.wrap .i64 (1 + Go.IntKind.wrap .i64 (Int.tmod (Go.IntKind.wrap .u64 w) 60))) = 0) then
    none
  else
    (optK (S.q_pring (Go.IntKind.wrap .i64 (1 + Go.IntKind.wrap .i64 (Int.tmod (Go.IntKind.wrap .u64 w) 60))) (Go.IntKind.wrap .i64 (1 + Go.IntKind.wrap .i64 (Int.tmod (Go.IntKind.wrap .u64 g) (Go.IntKind.wrap .u64 (Go.IntKind.wrap .i64 (1 + Go.IntKind.wrap .i64 (Int.tmod (Go.IntKind.wrap .u64 w) 60)))))))) fun o3 =>
      (Sum.elim (fun o4 : Unit =>
    some (false)) (fun o4 : Int × Int × Int =>
    (optK (S.q_rm1 o4.1 o4.2.1 o4.2.2 (-1) false 5) fun o5 =>
          bif !decide (o5.1 = 0) then
            some (false)
          else
            optK (S.RingSteady_l0 fu w g v c fu (0) (0) (0) (o5.2.1) (o5.2.2.1) (o5.2.2.2.1) (o5.2.2.2.2.1) (o5.2.2.2.2.2) ([]) ([])) (Sum.elim (fun z : Nat × Nat × Int × Int × Int × Int × Bool × List (Option Nat) × List (Int × Int × Int × Bool) => S.RingSteady_a0_0 fu w g v c (z.1) (z.2.1) (z.2.2.1) (z.2.2.2.1) (z.2.2.2.2.1) (z.2.2.2.2.2.1) (z.2.2.2.2.2.2.1) (z.2.2.2.2.2.2.2.1) (z.2.2.2.2.2.2.2.2)) (fun z : Int × Bool × Nat × Nat × Int × Int × Int × Int × Bool × List (Option Nat) × List (Int × Int × Int × Bool) => S.RingSteady_a0_1 fu w g v c (z.1) (z.2.1) (z.2.2.1) (z.2.2.2.1) (z.2.2.2.2.1) (z.2.2.2.2.2.1) (z.2.2.2.2.2.2.1) (z.2.2.2.2.2.2.2.1) (z.2.2.2.2.2.2.2.2.1) (z.2.2.2.2.2.2.2.2.2.1) (z.2.2.2.2.2.2.2.2.2.2))))) (o3)))
theorem S.RingSteady_v {R : Type} (fu : Nat) (w g v c : Int) (k : AVal → List Blk → Option R) : fnEval tis F6 fu G21s Try.f6 [.int .i64 w, .int .i64 g, .int .i64 v, .int .i64 c] [] k = oK (fun v : Bool => k (.bool v) []) (S.RingSteady fu w g v c) :=
  (S.RingSteady_k fu w g v c k).trans (by
      unfold S.RingSteady
      refine bif_lift (f := (oK (S.RingSteady_gk w g v c k))) ?_ ?_
      · 
        exact rfl
      · 
        refine opt_lift fun o3 => ?_
        refine sumF_lift (f := (oK (S.RingSteady_gk w g v c k))) (fun o4 => ?_) (fun o4 => ?_) _
        · 
          exact rfl
        · 
          refine opt_lift fun o5 => ?_
          refine bif_lift (f := (oK (S.RingSteady_gk w g v c k))) ?_ ?_
          · 
            exact rfl
          · 
            exact (arr_lift (S.RingSteady_l0_v fu w g v c (contOf (C_RingSteady fu w g v c) G21s (bodyOf Try.f6) [1, 1, 1, 1, 1, 1, 0, 1, 0] (retK tis F6 Try.f6 (List.length ([] : List Blk)) k)) fu (0) (0) (0) (o5.2.1) (o5.2.2.1) (o5.2.2.2.1) (o5.2.2.2.2.1) (o5.2.2.2.2.2) ([]) ([])) ((sum_lift (fun z => S.RingSteady_a0_0_v fu w g v c (z.1) (z.2.1) (z.2.2.1) (z.2.2.2.1) (z.2.2.2.2.1) (z.2.2.2.2.2.1) (z.2.2.2.2.2.2.1) (z.2.2.2.2.2.2.2.1) (z.2.2.2.2.2.2.2.2) k) (fun z => S.RingSteady_a0_1_v fu w g v c (z.1) (z.2.1) (z.2.2.1) (z.2.2.2.1) (z.2.2.2.2.1) (z.2.2.2.2.2.1) (z.2.2.2.2.2.2.1) (z.2.2.2.2.2.2.2.1) (z.2.2.2.2.2.2.2.2.1) (z.2.2.2.2.2.2.2.2.2.1) (z.2.2.2.2.2.2.2.2.2.2) k))))
      )
noncomputable def H6 : Hnd := fun R args σ k => match args, σ with
  | [.int .i64 w, .int .i64 g, .int .i64 v, .int .i64 c], [] => oK (fun v : Bool => k (.bool v) []) (S.RingSteady 100000 w g v c)
  | _, _ => none
theorem H6_ok : HndOk Try.prog 6 H6 := hnd_ok tis tisOk mixOk G21s_ok F6 Try.func6 rfl (by
  intro R args σ k r h
  unfold H6 at h
  split at h
  · rename_i w g v c; exact ⟨100000, (S.RingSteady_v 100000 w g v c _).trans h⟩
  · cases h)
noncomputable def G6 : Env := Env.add 6 H6 G21s
theorem G6_ok : EnvOk Try.prog G6 := envAdd_ok H6_ok G21s_ok
end Go.Proofs.Ytmgnfjiogfcieaa.AB
