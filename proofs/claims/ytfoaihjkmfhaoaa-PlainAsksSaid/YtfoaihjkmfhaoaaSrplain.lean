/- The document's answer of layer 6, as plain functions. -/
import Derived.Test.YtfoaihjkmfhaoaaSrring
namespace Go.Proofs.Ytfoaihjkmfhaoaa.AB
set_option linter.unusedVariables false

/-! spinnakerref5.Newest -/
def F20 : FCfg := ⟨keepAt [(0, [0]), (1, [0, 3]), (2, [0, 3, 4]), (3, [0, 3, 4, 8]), (4, [0, 3, 4]), (5, [0, 3, 4, 15]), (6, [0, 3, 4]), (7, [2])], loopAt [(3, [0, 3, 4], [])], []⟩
noncomputable def C_rnewest (fu : Nat) (l : RL) (lo len : Nat) (ro : Bool) : Cfg := Cfg.of tis F20 fu (List.length ([.rows (.pair (.int .i64) (.int .i64)) l ro] : List Blk)) Try.f20.ntmps
noncomputable def S.rnewest_b0 : Code := codeAt (bodyOf Try.f20) [1, 1, 0, 1, 0, 0]
noncomputable def S.rnewest_s0 (l : RL) (lo len : Nat) (ro : Bool) (y0 : Int) (y1 : Int) : St := ⟨[(0, (.slice 2 0 (lo) (len) none)), (3, (.int .i64 (y0))), (4, (.int .i64 (y1)))], [(.rows (Cd.pair (Cd.int .i64) (Cd.int .i64)) (l) ro)]⟩
noncomputable def S.rnewest_x0_0 (l : RL) (lo len : Nat) (ro : Bool) (z0 : Int) (z1 : Int) (z2 : Bool) : St := ⟨[(0, (.slice 2 0 (lo) (len) none)), (3, (.int .i64 (z0))), (4, (.int .i64 (z1))), (8, (.bool (z2)))], [(.rows (Cd.pair (Cd.int .i64) (Cd.int .i64)) (l) ro)]⟩
theorem S.rnewest_l0_k {R : Type} (fu : Nat) (l : RL) (lo len : Nat) (ro : Bool) (n : Nat) (K : Ex → St → Option R) (y0 : Int) (y1 : Int) : loopRun (C_rnewest fu l lo len ro) G50 S.rnewest_b0 (n + 1) (S.rnewest_s0 l lo len ro (y0) (y1)) K =
  (bif decide (y1 < ((len : Nat) : Int)) then
    bif inB y1 len then
      (optK (l[Int.toNat y1 + lo]?) fun o4 =>
        bif S.rtaken (Prod.fst o4) (Prod.snd o4) then
          bif inB y1 len then
            (optK (l[Int.toNat y1 + lo]?) fun o7 =>
              loopRun (C_rnewest fu l lo len ro) G50 S.rnewest_b0 n (S.rnewest_s0 l lo len ro (if Prod.fst o7 > y0 then Prod.fst o7 else y0) (Go.IntKind.wrap .i64 (y1 + 1))) K)
          else
            none
        else
          loopRun (C_rnewest fu l lo len ro) G50 S.rnewest_b0 n (S.rnewest_s0 l lo len ro (y0) (Go.IntKind.wrap .i64 (y1 + 1))) K)
    else
      none
  else
    K (Ex.exit 0) (S.rnewest_x0_0 l lo len ro (y0) (y1) (decide (y1 < ((len : Nat) : Int))))) := by kernel_rfl
def S.rnewest_l0 (fu : Nat) (l : RL) (lo len : Nat) (ro : Bool) : Nat → (Int) → (Int) → Option ((Int × Int × Bool))
  | 0, _, _ => none
  | n + 1, y0, y1 =>
    bif decide (y1 < ((len : Nat) : Int)) then
      bif inB y1 len then
        (optK (l[Int.toNat y1 + lo]?) fun o4 =>
          bif S.rtaken (Prod.fst o4) (Prod.snd o4) then
            bif inB y1 len then
              (optK (l[Int.toNat y1 + lo]?) fun o7 =>
                (S.rnewest_l0 fu l lo len ro n) (if Prod.fst o7 > y0 then Prod.fst o7 else y0) (Go.IntKind.wrap .i64 (y1 + 1)))
            else
              none
          else
            (S.rnewest_l0 fu l lo len ro n) (y0) (Go.IntKind.wrap .i64 (y1 + 1)))
      else
        none
    else
      some (y0, y1, decide (y1 < ((len : Nat) : Int)))
theorem S.rnewest_l0_v {R : Type} (fu : Nat) (l : RL) (lo len : Nat) (ro : Bool) (K : Ex → St → Option R) : ∀ (n : Nat) (y0 : Int) (y1 : Int), loopRun (C_rnewest fu l lo len ro) G50 S.rnewest_b0 n (S.rnewest_s0 l lo len ro (y0) (y1)) K = oK (β := (Int × Int × Bool)) (fun z : Int × Int × Bool => K (Ex.exit 0) (S.rnewest_x0_0 l lo len ro (z.1) (z.2.1) (z.2.2))) (S.rnewest_l0 fu l lo len ro n y0 y1)
  | 0, _, _ => rfl
  | n + 1, y0, y1 => (S.rnewest_l0_k fu l lo len ro n K y0 y1).trans (bif_lift (f := (oK (β := (Int × Int × Bool)) (fun z : Int × Int × Bool => K (Ex.exit 0) (S.rnewest_x0_0 l lo len ro (z.1) (z.2.1) (z.2.2))))) (bif_lift (f := (oK (β := (Int × Int × Bool)) (fun z : Int × Int × Bool => K (Ex.exit 0) (S.rnewest_x0_0 l lo len ro (z.1) (z.2.1) (z.2.2))))) (opt_lift fun o4 => (bif_lift (f := (oK (β := (Int × Int × Bool)) (fun z : Int × Int × Bool => K (Ex.exit 0) (S.rnewest_x0_0 l lo len ro (z.1) (z.2.1) (z.2.2))))) (bif_lift (f := (oK (β := (Int × Int × Bool)) (fun z : Int × Int × Bool => K (Ex.exit 0) (S.rnewest_x0_0 l lo len ro (z.1) (z.2.1) (z.2.2))))) (opt_lift fun o7 => (S.rnewest_l0_v fu l lo len ro K n (if Prod.fst o7 > y0 then Prod.fst o7 else y0) (Go.IntKind.wrap .i64 (y1 + 1)))) rfl) (S.rnewest_l0_v fu l lo len ro K n (y0) (Go.IntKind.wrap .i64 (y1 + 1))))) rfl) rfl)
theorem S.rnewest_a0_0_k {R : Type} (fu : Nat) (l : RL) (lo len : Nat) (ro : Bool) (z0 : Int) (z1 : Int) (z2 : Bool) (k : AVal → List Blk → Option R) : contOf (C_rnewest fu l lo len ro) G50 (bodyOf Try.f20) [1, 1, 0, 1, 0] (retK tis F20 Try.f20 (List.length ([.rows (.pair (.int .i64) (.int .i64)) l ro] : List Blk)) k) (Ex.exit 0) (S.rnewest_x0_0 l lo len ro (z0) (z1) (z2)) =
  (k (.int .i64 z0) ([.rows (Cd.pair (Cd.int .i64) (Cd.int .i64)) l ro])) := by kernel_rfl
def S.rnewest_a0_0 (fu : Nat) (l : RL) (lo len : Nat) (ro : Bool) (z0 : Int) (z1 : Int) (z2 : Bool) : Option (Int × RL) :=
  some (z0, l)
theorem S.rnewest_a0_0_v {R : Type} (fu : Nat) (l : RL) (lo len : Nat) (ro : Bool) (z0 : Int) (z1 : Int) (z2 : Bool) (k : AVal → List Blk → Option R) : contOf (C_rnewest fu l lo len ro) G50 (bodyOf Try.f20) [1, 1, 0, 1, 0] (retK tis F20 Try.f20 (List.length ([.rows (.pair (.int .i64) (.int .i64)) l ro] : List Blk)) k) (Ex.exit 0) (S.rnewest_x0_0 l lo len ro (z0) (z1) (z2)) = oK (fun v : Int × RL => k (.int .i64 v.1) [(.rows (Cd.pair (Cd.int .i64) (Cd.int .i64)) v.2 ro)]) (S.rnewest_a0_0 fu l lo len ro z0 z1 z2) :=
  (S.rnewest_a0_0_k fu l lo len ro z0 z1 z2 k).trans rfl
theorem S.rnewest_k {R : Type} (fu : Nat) (l : RL) (lo len : Nat) (ro : Bool) (k : AVal → List Blk → Option R) : fnEval tis F20 fu G50 Try.f20 [.slice 2 0 lo len none] [.rows (.pair (.int .i64) (.int .i64)) l ro] k =
  (loopRun (C_rnewest fu l lo len ro) G50 S.rnewest_b0 fu (S.rnewest_s0 l lo len ro (-1) (0)) (contOf (C_rnewest fu l lo len ro) G50 (bodyOf Try.f20) [1, 1, 0, 1, 0] (retK tis F20 Try.f20 (List.length ([.rows (.pair (.int .i64) (.int .i64)) l ro] : List Blk)) k))) := by kernel_rfl
def S.rnewest (fu : Nat) (l : RL) (lo len : Nat) (ro : Bool) : Option (Int × RL) :=
  optK (S.rnewest_l0 fu l lo len ro fu (-1) (0)) (fun z : Int × Int × Bool => S.rnewest_a0_0 fu l lo len ro (z.1) (z.2.1) (z.2.2))
theorem S.rnewest_v {R : Type} (fu : Nat) (l : RL) (lo len : Nat) (ro : Bool) (k : AVal → List Blk → Option R) : fnEval tis F20 fu G50 Try.f20 [.slice 2 0 lo len none] [.rows (.pair (.int .i64) (.int .i64)) l ro] k = oK (fun v : Int × RL => k (.int .i64 v.1) [(.rows (Cd.pair (Cd.int .i64) (Cd.int .i64)) v.2 ro)]) (S.rnewest fu l lo len ro) :=
  (S.rnewest_k fu l lo len ro k).trans (arr_lift (S.rnewest_l0_v fu l lo len ro (contOf (C_rnewest fu l lo len ro) G50 (bodyOf Try.f20) [1, 1, 0, 1, 0] (retK tis F20 Try.f20 (List.length ([.rows (.pair (.int .i64) (.int .i64)) l ro] : List Blk)) k)) fu (-1) (0)) ((fun z => S.rnewest_a0_0_v fu l lo len ro (z.1) (z.2.1) (z.2.2) k)))
def H20 : Hnd := fun R args σ k => match args, σ with
  | [.slice 2 0 lo len none], [.rows (.pair (.int .i64) (.int .i64)) l ro] => oK (fun v : Int × RL => k (.int .i64 v.1) [(.rows (Cd.pair (Cd.int .i64) (Cd.int .i64)) v.2 ro)]) (S.rnewest 100000 l lo len ro)
  | _, _ => none
theorem H20_ok : HndOk Try.prog 20 H20 := hnd_ok tis tisOk mixOk G50_ok F20 Try.func20 rfl (by
  intro R args σ k r h
  unfold H20 at h
  split at h
  · rename_i lo len l ro; exact ⟨100000, (S.rnewest_v 100000 l lo len ro _).trans h⟩
  · cases h)
def G20 : Env := Env.add 20 H20 G50
theorem G20_ok : EnvOk Try.prog G20 := envAdd_ok H20_ok G50_ok

/-! spinnakerref5.Steady -/
def F22 : FCfg := ⟨keepAt [(0, [0, 1]), (1, [0, 1, 5]), (2, [0, 1, 5, 9]), (3, [0, 1, 5]), (4, [0, 1, 5, 25]), (5, [4]), (6, [4])], loopAt [(2, [0, 1, 5], [])], []⟩
noncomputable def C_rsteady (fu : Nat) (l : RL) (lo len : Nat) (ro : Bool) (v : Int) : Cfg := Cfg.of tis F22 fu (List.length ([.rows (.pair (.int .i64) (.int .i64)) l ro] : List Blk)) Try.f22.ntmps
noncomputable def S.rsteady_b0 : Code := codeAt (bodyOf Try.f22) [1, 0, 1, 0, 0]
noncomputable def S.rsteady_s0 (l : RL) (lo len : Nat) (ro : Bool) (v : Int) (y0 : Int) : St := ⟨[(0, (.slice 2 0 (lo) (len) none)), (1, (.int .i64 (v))), (5, (.int .i64 (y0)))], [(.rows (Cd.pair (Cd.int .i64) (Cd.int .i64)) (l) ro)]⟩
noncomputable def S.rsteady_x0_0 (l : RL) (lo len : Nat) (ro : Bool) (v : Int)  : St := ⟨[(4, (.bool (false)))], [(.rows (Cd.pair (Cd.int .i64) (Cd.int .i64)) (l) ro)]⟩
noncomputable def S.rsteady_x0_1 (l : RL) (lo len : Nat) (ro : Bool) (v : Int) (z0 : Int) (z1 : Bool) : St := ⟨[(0, (.slice 2 0 (lo) (len) none)), (1, (.int .i64 (v))), (5, (.int .i64 (z0))), (9, (.bool (z1)))], [(.rows (Cd.pair (Cd.int .i64) (Cd.int .i64)) (l) ro)]⟩
theorem S.rsteady_l0_k {R : Type} (fu : Nat) (l : RL) (lo len : Nat) (ro : Bool) (v : Int) (n : Nat) (K : Ex → St → Option R) (y0 : Int) : loopRun (C_rsteady fu l lo len ro v) G20 S.rsteady_b0 (n + 1) (S.rsteady_s0 l lo len ro v (y0)) K =
  (bif decide (y0 < ((len : Nat) : Int)) then
    bif inB y0 len then
      (optK (l[Int.toNat y0 + lo]?) fun o4 =>
        bif S.rtaken (Prod.fst o4) (Prod.snd o4) then
          bif inB y0 len then
            (optK (l[Int.toNat y0 + lo]?) fun o7 =>
              bif !decide (Prod.snd o7 = v) then
                K (Ex.ret) (S.rsteady_x0_0 l lo len ro v)
              else
                loopRun (C_rsteady fu l lo len ro v) G20 S.rsteady_b0 n (S.rsteady_s0 l lo len ro v (Go.IntKind.wrap .i64 (y0 + 1))) K)
          else
            none
        else
          loopRun (C_rsteady fu l lo len ro v) G20 S.rsteady_b0 n (S.rsteady_s0 l lo len ro v (Go.IntKind.wrap .i64 (y0 + 1))) K)
    else
      none
  else
    K (Ex.exit 0) (S.rsteady_x0_1 l lo len ro v (y0) (decide (y0 < ((len : Nat) : Int))))) := by kernel_rfl
def S.rsteady_l0 (fu : Nat) (l : RL) (lo len : Nat) (ro : Bool) (v : Int) : Nat → (Int) → Option ((Unit) ⊕ (Int × Bool))
  | 0, _ => none
  | n + 1, y0 =>
    bif decide (y0 < ((len : Nat) : Int)) then
      bif inB y0 len then
        (optK (l[Int.toNat y0 + lo]?) fun o4 =>
          bif S.rtaken (Prod.fst o4) (Prod.snd o4) then
            bif inB y0 len then
              (optK (l[Int.toNat y0 + lo]?) fun o7 =>
                bif !decide (Prod.snd o7 = v) then
                  some (.inl ())
                else
                  (S.rsteady_l0 fu l lo len ro v n) (Go.IntKind.wrap .i64 (y0 + 1)))
            else
              none
          else
            (S.rsteady_l0 fu l lo len ro v n) (Go.IntKind.wrap .i64 (y0 + 1)))
      else
        none
    else
      some (.inr (y0, decide (y0 < ((len : Nat) : Int))))
theorem S.rsteady_l0_v {R : Type} (fu : Nat) (l : RL) (lo len : Nat) (ro : Bool) (v : Int) (K : Ex → St → Option R) : ∀ (n : Nat) (y0 : Int), loopRun (C_rsteady fu l lo len ro v) G20 S.rsteady_b0 n (S.rsteady_s0 l lo len ro v (y0)) K = oK (β := (Unit) ⊕ (Int × Bool)) (Sum.elim (fun z : Unit => K (Ex.ret) (S.rsteady_x0_0 l lo len ro v)) (fun z : Int × Bool => K (Ex.exit 0) (S.rsteady_x0_1 l lo len ro v (z.1) (z.2)))) (S.rsteady_l0 fu l lo len ro v n y0)
  | 0, _ => rfl
  | n + 1, y0 => (S.rsteady_l0_k fu l lo len ro v n K y0).trans (bif_lift (f := (oK (β := (Unit) ⊕ (Int × Bool)) (Sum.elim (fun z : Unit => K (Ex.ret) (S.rsteady_x0_0 l lo len ro v)) (fun z : Int × Bool => K (Ex.exit 0) (S.rsteady_x0_1 l lo len ro v (z.1) (z.2)))))) (bif_lift (f := (oK (β := (Unit) ⊕ (Int × Bool)) (Sum.elim (fun z : Unit => K (Ex.ret) (S.rsteady_x0_0 l lo len ro v)) (fun z : Int × Bool => K (Ex.exit 0) (S.rsteady_x0_1 l lo len ro v (z.1) (z.2)))))) (opt_lift fun o4 => (bif_lift (f := (oK (β := (Unit) ⊕ (Int × Bool)) (Sum.elim (fun z : Unit => K (Ex.ret) (S.rsteady_x0_0 l lo len ro v)) (fun z : Int × Bool => K (Ex.exit 0) (S.rsteady_x0_1 l lo len ro v (z.1) (z.2)))))) (bif_lift (f := (oK (β := (Unit) ⊕ (Int × Bool)) (Sum.elim (fun z : Unit => K (Ex.ret) (S.rsteady_x0_0 l lo len ro v)) (fun z : Int × Bool => K (Ex.exit 0) (S.rsteady_x0_1 l lo len ro v (z.1) (z.2)))))) (opt_lift fun o7 => (bif_lift (f := (oK (β := (Unit) ⊕ (Int × Bool)) (Sum.elim (fun z : Unit => K (Ex.ret) (S.rsteady_x0_0 l lo len ro v)) (fun z : Int × Bool => K (Ex.exit 0) (S.rsteady_x0_1 l lo len ro v (z.1) (z.2)))))) rfl (S.rsteady_l0_v fu l lo len ro v K n (Go.IntKind.wrap .i64 (y0 + 1))))) rfl) (S.rsteady_l0_v fu l lo len ro v K n (Go.IntKind.wrap .i64 (y0 + 1))))) rfl) rfl)
theorem S.rsteady_a0_1_k {R : Type} (fu : Nat) (l : RL) (lo len : Nat) (ro : Bool) (v : Int) (z0 : Int) (z1 : Bool) (k : AVal → List Blk → Option R) : contOf (C_rsteady fu l lo len ro v) G20 (bodyOf Try.f22) [1, 0, 1, 0] (retK tis F22 Try.f22 (List.length ([.rows (.pair (.int .i64) (.int .i64)) l ro] : List Blk)) k) (Ex.exit 0) (S.rsteady_x0_1 l lo len ro v (z0) (z1)) =
  (k (.bool true) ([.rows (Cd.pair (Cd.int .i64) (Cd.int .i64)) l ro])) := by kernel_rfl
def S.rsteady_a0_1 (fu : Nat) (l : RL) (lo len : Nat) (ro : Bool) (v : Int) (z0 : Int) (z1 : Bool) : Option (Bool × RL) :=
  some (true, l)
theorem S.rsteady_a0_1_v {R : Type} (fu : Nat) (l : RL) (lo len : Nat) (ro : Bool) (v : Int) (z0 : Int) (z1 : Bool) (k : AVal → List Blk → Option R) : contOf (C_rsteady fu l lo len ro v) G20 (bodyOf Try.f22) [1, 0, 1, 0] (retK tis F22 Try.f22 (List.length ([.rows (.pair (.int .i64) (.int .i64)) l ro] : List Blk)) k) (Ex.exit 0) (S.rsteady_x0_1 l lo len ro v (z0) (z1)) = oK (fun v : Bool × RL => k (.bool v.1) [(.rows (Cd.pair (Cd.int .i64) (Cd.int .i64)) v.2 ro)]) (S.rsteady_a0_1 fu l lo len ro v z0 z1) :=
  (S.rsteady_a0_1_k fu l lo len ro v z0 z1 k).trans rfl
theorem S.rsteady_a0_0_k {R : Type} (fu : Nat) (l : RL) (lo len : Nat) (ro : Bool) (v : Int)  (k : AVal → List Blk → Option R) : contOf (C_rsteady fu l lo len ro v) G20 (bodyOf Try.f22) [1, 0, 1, 0] (retK tis F22 Try.f22 (List.length ([.rows (.pair (.int .i64) (.int .i64)) l ro] : List Blk)) k) (Ex.ret) (S.rsteady_x0_0 l lo len ro v) =
  (k (.bool false) ([.rows (Cd.pair (Cd.int .i64) (Cd.int .i64)) l ro])) := by kernel_rfl
def S.rsteady_a0_0 (fu : Nat) (l : RL) (lo len : Nat) (ro : Bool) (v : Int)  : Option (Bool × RL) :=
  some (false, l)
theorem S.rsteady_a0_0_v {R : Type} (fu : Nat) (l : RL) (lo len : Nat) (ro : Bool) (v : Int)  (k : AVal → List Blk → Option R) : contOf (C_rsteady fu l lo len ro v) G20 (bodyOf Try.f22) [1, 0, 1, 0] (retK tis F22 Try.f22 (List.length ([.rows (.pair (.int .i64) (.int .i64)) l ro] : List Blk)) k) (Ex.ret) (S.rsteady_x0_0 l lo len ro v) = oK (fun v : Bool × RL => k (.bool v.1) [(.rows (Cd.pair (Cd.int .i64) (Cd.int .i64)) v.2 ro)]) (S.rsteady_a0_0 fu l lo len ro v) :=
  (S.rsteady_a0_0_k fu l lo len ro v k).trans rfl
theorem S.rsteady_k {R : Type} (fu : Nat) (l : RL) (lo len : Nat) (ro : Bool) (v : Int) (k : AVal → List Blk → Option R) : fnEval tis F22 fu G20 Try.f22 [.slice 2 0 lo len none, .int .i64 v] [.rows (.pair (.int .i64) (.int .i64)) l ro] k =
  (loopRun (C_rsteady fu l lo len ro v) G20 S.rsteady_b0 fu (S.rsteady_s0 l lo len ro v (0)) (contOf (C_rsteady fu l lo len ro v) G20 (bodyOf Try.f22) [1, 0, 1, 0] (retK tis F22 Try.f22 (List.length ([.rows (.pair (.int .i64) (.int .i64)) l ro] : List Blk)) k))) := by kernel_rfl
def S.rsteady (fu : Nat) (l : RL) (lo len : Nat) (ro : Bool) (v : Int) : Option (Bool × RL) :=
  optK (S.rsteady_l0 fu l lo len ro v fu (0)) (Sum.elim (fun z : Unit => S.rsteady_a0_0 fu l lo len ro v) (fun z : Int × Bool => S.rsteady_a0_1 fu l lo len ro v (z.1) (z.2)))
theorem S.rsteady_v {R : Type} (fu : Nat) (l : RL) (lo len : Nat) (ro : Bool) (v : Int) (k : AVal → List Blk → Option R) : fnEval tis F22 fu G20 Try.f22 [.slice 2 0 lo len none, .int .i64 v] [.rows (.pair (.int .i64) (.int .i64)) l ro] k = oK (fun v : Bool × RL => k (.bool v.1) [(.rows (Cd.pair (Cd.int .i64) (Cd.int .i64)) v.2 ro)]) (S.rsteady fu l lo len ro v) :=
  (S.rsteady_k fu l lo len ro v k).trans (arr_lift (S.rsteady_l0_v fu l lo len ro v (contOf (C_rsteady fu l lo len ro v) G20 (bodyOf Try.f22) [1, 0, 1, 0] (retK tis F22 Try.f22 (List.length ([.rows (.pair (.int .i64) (.int .i64)) l ro] : List Blk)) k)) fu (0)) ((sum_lift (fun z => S.rsteady_a0_0_v fu l lo len ro v k) (fun z => S.rsteady_a0_1_v fu l lo len ro v (z.1) (z.2) k))))
def H22 : Hnd := fun R args σ k => match args, σ with
  | [.slice 2 0 lo len none, .int .i64 v], [.rows (.pair (.int .i64) (.int .i64)) l ro] => oK (fun v : Bool × RL => k (.bool v.1) [(.rows (Cd.pair (Cd.int .i64) (Cd.int .i64)) v.2 ro)]) (S.rsteady 100000 l lo len ro v)
  | _, _ => none
theorem H22_ok : HndOk Try.prog 22 H22 := hnd_ok tis tisOk mixOk G20_ok F22 Try.func22 rfl (by
  intro R args σ k r h
  unfold H22 at h
  split at h
  · rename_i lo len v l ro; exact ⟨100000, (S.rsteady_v 100000 l lo len ro v _).trans h⟩
  · cases h)
def G22 : Env := Env.add 22 H22 G20
theorem G22_ok : EnvOk Try.prog G22 := envAdd_ok H22_ok G20_ok

/-! spinnakerref5.Plain -/
def F17 : FCfg := ⟨keepAt [(0, [0, 1, 2, 3]), (1, [0, 3, 10]), (2, [0, 3, 10, 16]), (3, [8, 9]), (4, [0, 3, 10, 11]), (5, [0, 3, 10, 11, 20]), (6, [0, 3, 10, 11]), (7, [0, 3, 10, 11]), (8, [8, 9])], loopAt [(5, [0, 3, 10, 11], [⟨false, 1, 2, (.pair (.int .i64) (.int .i64))⟩])], []⟩
noncomputable def C_rplain (fu : Nat) (l : RL) (lo len : Nat) (ro : Bool) (w g t : Int) : Cfg := Cfg.of tis F17 fu (List.length ([.rows (.pair (.int .i64) (.int .i64)) l ro] : List Blk)) Try.f17.ntmps
noncomputable def S.rplain_b0 : Code := codeAt (bodyOf Try.f17) [1, 1, 1, 0, 1, 0, 0]
noncomputable def S.rplain_s0 (l : RL) (lo len : Nat) (ro : Bool) (w g t : Int) (y0 : Int) (y1 : Int) (y2 : Int) (y3 : Nat) (y4 : Nat) (y5 : Int) (y6 : Bool) (y7 : List (Int × Int)) : St := ⟨[(0, (.slice 2 0 (lo) (len) none)), (3, (.int .i64 (t))), (10, (.ptr 1 (0) 0)), (11, (.int .i64 (y0)))], [(.rows (Cd.pair (Cd.int .i64) (Cd.int .i64)) (l) ro), (.var [(.int .i64 (y1)), (.int .i64 (y2)), (.slice 2 2 (y3) (y4) none), (.int .i64 (y5)), (.bool (y6))]), (.rows (Cd.pair (Cd.int .i64) (Cd.int .i64)) (y7) false)]⟩
noncomputable def S.rplain_x0_0 (l : RL) (lo len : Nat) (ro : Bool) (w g t : Int) (z0 : Int) (z1 : Bool) (z2 : Int) (z3 : Int) (z4 : Nat) (z5 : Nat) (z6 : Int) (z7 : Bool) (z8 : List (Int × Int)) : St := ⟨[(0, (.slice 2 0 (lo) (len) none)), (3, (.int .i64 (t))), (10, (.ptr 1 (0) 0)), (11, (.int .i64 (z0))), (20, (.bool (z1)))], [(.rows (Cd.pair (Cd.int .i64) (Cd.int .i64)) (l) ro), (.var [(.int .i64 (z2)), (.int .i64 (z3)), (.slice 2 2 (z4) (z5) none), (.int .i64 (z6)), (.bool (z7))]), (.rows (Cd.pair (Cd.int .i64) (Cd.int .i64)) (z8) false)]⟩
theorem S.rplain_l0_k {R : Type} (fu : Nat) (l : RL) (lo len : Nat) (ro : Bool) (w g t : Int) (n : Nat) (K : Ex → St → Option R) (y0 : Int) (y1 : Int) (y2 : Int) (y3 : Nat) (y4 : Nat) (y5 : Int) (y6 : Bool) (y7 : List (Int × Int)) : loopRun (C_rplain fu l lo len ro w g t) G22 S.rplain_b0 (n + 1) (S.rplain_s0 l lo len ro w g t (y0) (y1) (y2) (y3) (y4) (y5) (y6) (y7)) K =
  (bif decide (y0 < ((len : Nat) : Int)) then
    bif inB y0 len then
      (optK (l[Int.toNat y0 + lo]?) fun o4 =>
        bif inB y0 len then
          (optK (l[Int.toNat y0 + lo]?) fun o6 =>
            (optK (S.rput y7 y3 y4 y1 y2 y5 y6 (Prod.fst o4) (Prod.snd o6)) fun o7 =>
              (Sum.elim (fun o8 : Int × Int × Int × Nat × Nat × Int × Bool × List (Int × Int) =>
    loopRun (C_rplain fu l lo len ro w g t) G22 S.rplain_b0 n (S.rplain_s0 l lo len ro w g t (Go.IntKind.wrap .i64 (y0 + 1)) (Prod.fst (Prod.snd o8)) (Prod.fst (Prod.snd (Prod.snd o8))) (Prod.fst (Prod.snd (Prod.snd (Prod.snd o8)))) (Prod.fst (Prod.snd (Prod.snd (Prod.snd (Prod.snd o8))))) (Prod.fst (Prod.snd (Prod.snd (Prod.snd (Prod.snd (Prod.snd o8)))))) (Prod.fst (Prod.snd (Prod.snd (Prod.snd (Prod.snd (Prod.snd (Prod.snd o8))))))) (Prod.snd (Prod.snd (Prod.snd (Prod.snd (Prod.snd (Prod.snd (Prod.snd o8)))))))) K) (fun o8 : Int × Int × Nat × Int × Bool × List (Int × Int) =>
    loopRun (C_rplain fu l lo len ro w g t) G22 S.rplain_b0 n (S.rplain_s0 l lo len ro w g t (Go.IntKind.wrap .i64 (y0 + 1)) (Prod.fst o8) (Prod.fst (Prod.snd o8)) (0) (Prod.fst (Prod.snd (Prod.snd o8))) (Prod.fst (Prod.snd (Prod.snd (Prod.snd o8)))) (Prod.fst (Prod.snd (Prod.snd (Prod.snd (Prod.snd o8))))) (Prod.snd (Prod.snd (Prod.snd (Prod.snd (Prod.snd o8)))))) K) (o7))))
        else
          none)
    else
      none
  else
    K (Ex.exit 0) (S.rplain_x0_0 l lo len ro w g t (y0) (decide (y0 < ((len : Nat) : Int))) (y1) (y2) (y3) (y4) (y5) (y6) (y7))) := by kernel_rfl
def S.rplain_l0 (fu : Nat) (l : RL) (lo len : Nat) (ro : Bool) (w g t : Int) : Nat → (Int) → (Int) → (Int) → (Nat) → (Nat) → (Int) → (Bool) → (List (Int × Int)) → Option ((Int × Bool × Int × Int × Nat × Nat × Int × Bool × List (Int × Int)))
  | 0, _, _, _, _, _, _, _, _ => none
  | n + 1, y0, y1, y2, y3, y4, y5, y6, y7 =>
    bif decide (y0 < ((len : Nat) : Int)) then
      bif inB y0 len then
        (optK (l[Int.toNat y0 + lo]?) fun o4 =>
          bif inB y0 len then
            (optK (l[Int.toNat y0 + lo]?) fun o6 =>
              (optK (S.rput y7 y3 y4 y1 y2 y5 y6 (Prod.fst o4) (Prod.snd o6)) fun o7 =>
                (Sum.elim (fun o8 : Int × Int × Int × Nat × Nat × Int × Bool × List (Int × Int) =>
    (S.rplain_l0 fu l lo len ro w g t n) (Go.IntKind.wrap .i64 (y0 + 1)) (Prod.fst (Prod.snd o8)) (Prod.fst (Prod.snd (Prod.snd o8))) (Prod.fst (Prod.snd (Prod.snd (Prod.snd o8)))) (Prod.fst (Prod.snd (Prod.snd (Prod.snd (Prod.snd o8))))) (Prod.fst (Prod.snd (Prod.snd (Prod.snd (Prod.snd (Prod.snd o8)))))) (Prod.fst (Prod.snd (Prod.snd (Prod.snd (Prod.snd (Prod.snd (Prod.snd o8))))))) (Prod.snd (Prod.snd (Prod.snd (Prod.snd (Prod.snd (Prod.snd (Prod.snd o8)))))))) (fun o8 : Int × Int × Nat × Int × Bool × List (Int × Int) =>
    (S.rplain_l0 fu l lo len ro w g t n) (Go.IntKind.wrap .i64 (y0 + 1)) (Prod.fst o8) (Prod.fst (Prod.snd o8)) (0) (Prod.fst (Prod.snd (Prod.snd o8))) (Prod.fst (Prod.snd (Prod.snd (Prod.snd o8)))) (Prod.fst (Prod.snd (Prod.snd (Prod.snd (Prod.snd o8))))) (Prod.snd (Prod.snd (Prod.snd (Prod.snd (Prod.snd o8)))))) (o7))))
          else
            none)
      else
        none
    else
      some (y0, decide (y0 < ((len : Nat) : Int)), y1, y2, y3, y4, y5, y6, y7)
theorem S.rplain_l0_v {R : Type} (fu : Nat) (l : RL) (lo len : Nat) (ro : Bool) (w g t : Int) (K : Ex → St → Option R) : ∀ (n : Nat) (y0 : Int) (y1 : Int) (y2 : Int) (y3 : Nat) (y4 : Nat) (y5 : Int) (y6 : Bool) (y7 : List (Int × Int)), loopRun (C_rplain fu l lo len ro w g t) G22 S.rplain_b0 n (S.rplain_s0 l lo len ro w g t (y0) (y1) (y2) (y3) (y4) (y5) (y6) (y7)) K = oK (β := (Int × Bool × Int × Int × Nat × Nat × Int × Bool × List (Int × Int))) (fun z : Int × Bool × Int × Int × Nat × Nat × Int × Bool × List (Int × Int) => K (Ex.exit 0) (S.rplain_x0_0 l lo len ro w g t (z.1) (z.2.1) (z.2.2.1) (z.2.2.2.1) (z.2.2.2.2.1) (z.2.2.2.2.2.1) (z.2.2.2.2.2.2.1) (z.2.2.2.2.2.2.2.1) (z.2.2.2.2.2.2.2.2))) (S.rplain_l0 fu l lo len ro w g t n y0 y1 y2 y3 y4 y5 y6 y7)
  | 0, _, _, _, _, _, _, _, _ => rfl
  | n + 1, y0, y1, y2, y3, y4, y5, y6, y7 => (S.rplain_l0_k fu l lo len ro w g t n K y0 y1 y2 y3 y4 y5 y6 y7).trans (by
      rw [S.rplain_l0]
      refine bif_lift (f := (oK (β := (Int × Bool × Int × Int × Nat × Nat × Int × Bool × List (Int × Int))) (fun z : Int × Bool × Int × Int × Nat × Nat × Int × Bool × List (Int × Int) => K (Ex.exit 0) (S.rplain_x0_0 l lo len ro w g t (z.1) (z.2.1) (z.2.2.1) (z.2.2.2.1) (z.2.2.2.2.1) (z.2.2.2.2.2.1) (z.2.2.2.2.2.2.1) (z.2.2.2.2.2.2.2.1) (z.2.2.2.2.2.2.2.2))))) ?_ ?_
      · 
        refine bif_lift (f := (oK (β := (Int × Bool × Int × Int × Nat × Nat × Int × Bool × List (Int × Int))) (fun z : Int × Bool × Int × Int × Nat × Nat × Int × Bool × List (Int × Int) => K (Ex.exit 0) (S.rplain_x0_0 l lo len ro w g t (z.1) (z.2.1) (z.2.2.1) (z.2.2.2.1) (z.2.2.2.2.1) (z.2.2.2.2.2.1) (z.2.2.2.2.2.2.1) (z.2.2.2.2.2.2.2.1) (z.2.2.2.2.2.2.2.2))))) ?_ ?_
        · 
          refine opt_lift fun o4 => ?_
          refine bif_lift (f := (oK (β := (Int × Bool × Int × Int × Nat × Nat × Int × Bool × List (Int × Int))) (fun z : Int × Bool × Int × Int × Nat × Nat × Int × Bool × List (Int × Int) => K (Ex.exit 0) (S.rplain_x0_0 l lo len ro w g t (z.1) (z.2.1) (z.2.2.1) (z.2.2.2.1) (z.2.2.2.2.1) (z.2.2.2.2.2.1) (z.2.2.2.2.2.2.1) (z.2.2.2.2.2.2.2.1) (z.2.2.2.2.2.2.2.2))))) ?_ ?_
          · 
            refine opt_lift fun o6 => ?_
            refine opt_lift fun o7 => ?_
            refine sumF_lift (f := (oK (β := (Int × Bool × Int × Int × Nat × Nat × Int × Bool × List (Int × Int))) (fun z : Int × Bool × Int × Int × Nat × Nat × Int × Bool × List (Int × Int) => K (Ex.exit 0) (S.rplain_x0_0 l lo len ro w g t (z.1) (z.2.1) (z.2.2.1) (z.2.2.2.1) (z.2.2.2.2.1) (z.2.2.2.2.2.1) (z.2.2.2.2.2.2.1) (z.2.2.2.2.2.2.2.1) (z.2.2.2.2.2.2.2.2))))) (fun o8 => ?_) (fun o8 => ?_) _
            · 
              exact (S.rplain_l0_v fu l lo len ro w g t K n (Go.IntKind.wrap .i64 (y0 + 1)) (Prod.fst (Prod.snd o8)) (Prod.fst (Prod.snd (Prod.snd o8))) (Prod.fst (Prod.snd (Prod.snd (Prod.snd o8)))) (Prod.fst (Prod.snd (Prod.snd (Prod.snd (Prod.snd o8))))) (Prod.fst (Prod.snd (Prod.snd (Prod.snd (Prod.snd (Prod.snd o8)))))) (Prod.fst (Prod.snd (Prod.snd (Prod.snd (Prod.snd (Prod.snd (Prod.snd o8))))))) (Prod.snd (Prod.snd (Prod.snd (Prod.snd (Prod.snd (Prod.snd (Prod.snd o8))))))))
            · 
              exact (S.rplain_l0_v fu l lo len ro w g t K n (Go.IntKind.wrap .i64 (y0 + 1)) (Prod.fst o8) (Prod.fst (Prod.snd o8)) (0) (Prod.fst (Prod.snd (Prod.snd o8))) (Prod.fst (Prod.snd (Prod.snd (Prod.snd o8)))) (Prod.fst (Prod.snd (Prod.snd (Prod.snd (Prod.snd o8))))) (Prod.snd (Prod.snd (Prod.snd (Prod.snd (Prod.snd o8))))))
          · 
            exact rfl
        · 
          exact rfl
      · 
        exact rfl
      )
theorem S.rplain_a0_0_k {R : Type} (fu : Nat) (l : RL) (lo len : Nat) (ro : Bool) (w g t : Int) (z0 : Int) (z1 : Bool) (z2 : Int) (z3 : Int) (z4 : Nat) (z5 : Nat) (z6 : Int) (z7 : Bool) (z8 : List (Int × Int)) (k : AVal → List Blk → Option R) : contOf (C_rplain fu l lo len ro w g t) G22 (bodyOf Try.f17) [1, 1, 1, 0, 1, 0] (retK tis F17 Try.f17 (List.length ([.rows (.pair (.int .i64) (.int .i64)) l ro] : List Blk)) k) (Ex.exit 0) (S.rplain_x0_0 l lo len ro w g t (z0) (z1) (z2) (z3) (z4) (z5) (z6) (z7) (z8)) =
  ((optK (S.rsum 100000 z8 z4 z5 z2 z3 z6 z7 t) fun o2 =>
    k (.tuple [.int .i64 (Prod.fst o2), .int .i64 (Prod.fst (Prod.snd o2))]) ([.rows (Cd.pair (Cd.int .i64) (Cd.int .i64)) l ro]))) := by kernel_rfl
def S.rplain_a0_0 (fu : Nat) (l : RL) (lo len : Nat) (ro : Bool) (w g t : Int) (z0 : Int) (z1 : Bool) (z2 : Int) (z3 : Int) (z4 : Nat) (z5 : Nat) (z6 : Int) (z7 : Bool) (z8 : List (Int × Int)) : Option (Int × Int × RL) :=
  (optK (S.rsum 100000 z8 z4 z5 z2 z3 z6 z7 t) fun o2 =>
    some (Prod.fst o2, Prod.fst (Prod.snd o2), l))
theorem S.rplain_a0_0_v {R : Type} (fu : Nat) (l : RL) (lo len : Nat) (ro : Bool) (w g t : Int) (z0 : Int) (z1 : Bool) (z2 : Int) (z3 : Int) (z4 : Nat) (z5 : Nat) (z6 : Int) (z7 : Bool) (z8 : List (Int × Int)) (k : AVal → List Blk → Option R) : contOf (C_rplain fu l lo len ro w g t) G22 (bodyOf Try.f17) [1, 1, 1, 0, 1, 0] (retK tis F17 Try.f17 (List.length ([.rows (.pair (.int .i64) (.int .i64)) l ro] : List Blk)) k) (Ex.exit 0) (S.rplain_x0_0 l lo len ro w g t (z0) (z1) (z2) (z3) (z4) (z5) (z6) (z7) (z8)) = oK (fun v : Int × Int × RL => k (.tuple [(.int .i64 v.1), (.int .i64 v.2.1)]) [(.rows (Cd.pair (Cd.int .i64) (Cd.int .i64)) v.2.2 ro)]) (S.rplain_a0_0 fu l lo len ro w g t z0 z1 z2 z3 z4 z5 z6 z7 z8) :=
  (S.rplain_a0_0_k fu l lo len ro w g t z0 z1 z2 z3 z4 z5 z6 z7 z8 k).trans (opt_lift fun o2 => rfl)
theorem S.rplain_k {R : Type} (fu : Nat) (l : RL) (lo len : Nat) (ro : Bool) (w g t : Int) (k : AVal → List Blk → Option R) : fnEval tis F17 fu G22 Try.f17 [.slice 2 0 lo len none, .int .i64 w, .int .i64 g, .int .i64 t] [.rows (.pair (.int .i64) (.int .i64)) l ro] k =
  ((Sum.elim (fun o2 : Unit =>
    k (.tuple [.int .i64 0, .int .i64 0]) ([.rows (Cd.pair (Cd.int .i64) (Cd.int .i64)) l ro])) (fun o2 : Int × Int =>
    loopRun (C_rplain fu l lo len ro w g t) G22 S.rplain_b0 fu (S.rplain_s0 l lo len ro w g t (0) (Prod.fst o2) (Prod.snd o2) (0) (0) (-1) (false) ([])) (contOf (C_rplain fu l lo len ro w g t) G22 (bodyOf Try.f17) [1, 1, 1, 0, 1, 0] (retK tis F17 Try.f17 (List.length ([.rows (.pair (.int .i64) (.int .i64)) l ro] : List Blk)) k))) (S.rnewring w g))) := by kernel_rfl
def S.rplain (fu : Nat) (l : RL) (lo len : Nat) (ro : Bool) (w g t : Int) : Option (Int × Int × RL) :=
  (Sum.elim (fun o2 : Unit =>
    some (0, 0, l)) (fun o2 : Int × Int =>
    optK (S.rplain_l0 fu l lo len ro w g t fu (0) (Prod.fst o2) (Prod.snd o2) (0) (0) (-1) (false) ([])) (fun z : Int × Bool × Int × Int × Nat × Nat × Int × Bool × List (Int × Int) => S.rplain_a0_0 fu l lo len ro w g t (z.1) (z.2.1) (z.2.2.1) (z.2.2.2.1) (z.2.2.2.2.1) (z.2.2.2.2.2.1) (z.2.2.2.2.2.2.1) (z.2.2.2.2.2.2.2.1) (z.2.2.2.2.2.2.2.2))) (S.rnewring w g))
theorem S.rplain_v {R : Type} (fu : Nat) (l : RL) (lo len : Nat) (ro : Bool) (w g t : Int) (k : AVal → List Blk → Option R) : fnEval tis F17 fu G22 Try.f17 [.slice 2 0 lo len none, .int .i64 w, .int .i64 g, .int .i64 t] [.rows (.pair (.int .i64) (.int .i64)) l ro] k = oK (fun v : Int × Int × RL => k (.tuple [(.int .i64 v.1), (.int .i64 v.2.1)]) [(.rows (Cd.pair (Cd.int .i64) (Cd.int .i64)) v.2.2 ro)]) (S.rplain fu l lo len ro w g t) :=
  (S.rplain_k fu l lo len ro w g t k).trans (by
      unfold S.rplain
      refine sumF_lift (f := (oK (fun v : Int × Int × RL => k (.tuple [(.int .i64 v.1), (.int .i64 v.2.1)]) [(.rows (Cd.pair (Cd.int .i64) (Cd.int .i64)) v.2.2 ro)]))) (fun o2 => ?_) (fun o2 => ?_) _
      · 
        exact rfl
      · 
        exact (arr_lift (S.rplain_l0_v fu l lo len ro w g t (contOf (C_rplain fu l lo len ro w g t) G22 (bodyOf Try.f17) [1, 1, 1, 0, 1, 0] (retK tis F17 Try.f17 (List.length ([.rows (.pair (.int .i64) (.int .i64)) l ro] : List Blk)) k)) fu (0) (Prod.fst o2) (Prod.snd o2) (0) (0) (-1) (false) ([])) ((fun z => S.rplain_a0_0_v fu l lo len ro w g t (z.1) (z.2.1) (z.2.2.1) (z.2.2.2.1) (z.2.2.2.2.1) (z.2.2.2.2.2.1) (z.2.2.2.2.2.2.1) (z.2.2.2.2.2.2.2.1) (z.2.2.2.2.2.2.2.2) k)))
      )
def H17 : Hnd := fun R args σ k => match args, σ with
  | [.slice 2 0 lo len none, .int .i64 w, .int .i64 g, .int .i64 t], [.rows (.pair (.int .i64) (.int .i64)) l ro] => oK (fun v : Int × Int × RL => k (.tuple [(.int .i64 v.1), (.int .i64 v.2.1)]) [(.rows (Cd.pair (Cd.int .i64) (Cd.int .i64)) v.2.2 ro)]) (S.rplain 100000 l lo len ro w g t)
  | _, _ => none
theorem H17_ok : HndOk Try.prog 17 H17 := hnd_ok tis tisOk mixOk G22_ok F17 Try.func17 rfl (by
  intro R args σ k r h
  unfold H17 at h
  split at h
  · rename_i lo len w g t l ro; exact ⟨100000, (S.rplain_v 100000 l lo len ro w g t _).trans h⟩
  · cases h)
def G17 : Env := Env.add 17 H17 G22
theorem G17_ok : EnvOk Try.prog G17 := envAdd_ok H17_ok G22_ok
end Go.Proofs.Ytfoaihjkmfhaoaa.AB
