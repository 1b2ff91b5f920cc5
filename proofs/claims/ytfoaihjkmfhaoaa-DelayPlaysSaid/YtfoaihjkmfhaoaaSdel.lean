/- Deletion by a test, as plain functions. -/
import Derived.Test.YtfoaihjkmfhaoaaTis
import Derived.Test.YtfoaihjkmfhaoaaFwZ
namespace Go.Proofs.Ytfoaihjkmfhaoaa.AB
set_option linter.unusedVariables false
abbrev WL : Type := List (Option (Int × Int))

/-! (*delay.Delay).Put$1 -/
def F56 : FCfg := ⟨keepAt [(0, [0, 1]), (1, [1, 4, 5]), (2, [3])], loopAt [], []⟩
theorem S.dold_k {R : Type} (x w t : Int) (k : AVal → List Blk → Option R) : fnEval tis F56 0 Env.none Try.f56 [.iface 92 (.agg [.int .i64 x, .int .i64 w]), .ptr 0 0 0] [.var [.int .i64 t]] k =
  (k (.bool (decide (600 < Go.IntKind.wrap .i64 (t - x)))) ([.var [.int .i64 t]])) := by kernel_rfl
def S.dold (x w t : Int) : Bool × Int :=
  (decide (600 < Go.IntKind.wrap .i64 (t - x)), t)
theorem S.dold_v {R : Type} (x w t : Int) (k : AVal → List Blk → Option R) : fnEval tis F56 0 Env.none Try.f56 [.iface 92 (.agg [.int .i64 x, .int .i64 w]), .ptr 0 0 0] [.var [.int .i64 t]] k = k (.bool (S.dold x w t).1) [(.var [(.int .i64 (S.dold x w t).2)])] :=
  (S.dold_k x w t k).trans rfl
theorem S.dold1_k {R : Type} (t : Int) (k : AVal → List Blk → Option R) : fnEval tis F56 0 Env.none Try.f56 [.nili, .ptr 0 0 0] [.var [.int .i64 t]] k =
  (k (.bool true) ([.var [.int .i64 t]])) := by kernel_rfl
def S.dold1 (t : Int) : Bool × Int :=
  (true, t)
theorem S.dold1_v {R : Type} (t : Int) (k : AVal → List Blk → Option R) : fnEval tis F56 0 Env.none Try.f56 [.nili, .ptr 0 0 0] [.var [.int .i64 t]] k = k (.bool (S.dold1 t).1) [(.var [(.int .i64 (S.dold1 t).2)])] :=
  (S.dold1_k t k).trans rfl
def H56 : Hnd := fun R args σ k => match args, σ with
  | [.iface 92 (.agg [.int .i64 x, .int .i64 w]), .ptr 0 0 0], [.var [.int .i64 t]] => k (.bool (S.dold x w t).1) [(.var [(.int .i64 (S.dold x w t).2)])]
  | [.nili, .ptr 0 0 0], [.var [.int .i64 t]] => k (.bool (S.dold1 t).1) [(.var [(.int .i64 (S.dold1 t).2)])]
  | _, _ => none
theorem H56_ok : HndOk Try.prog 56 H56 := hnd_ok tis tisOk mixOk envNone_ok F56 Try.func56 rfl (by
  intro R args σ k r h
  unfold H56 at h
  split at h
  · rename_i x w t; exact ⟨0, (S.dold_v x w t _).trans h⟩
  · rename_i t; exact ⟨0, (S.dold1_v t _).trans h⟩
  · cases h)
def G56 : Env := Env.add 56 H56 Env.none
theorem G56_ok : EnvOk Try.prog G56 := envAdd_ok H56_ok envNone_ok

/-! slices.IndexFunc[[]any,any] -/
def F53 : FCfg := ⟨keepAt [(0, [0, 1]), (1, [0, 1, 7, 8]), (2, [0, 1, 7, 8, 9]), (3, [0, 1, 5, 7, 8]), (4, [0, 1, 5, 7, 8, 16]), (5, [4]), (6, [0, 1, 7, 8]), (7, [4])], loopAt [(2, [0, 1, 7, 8], [])], []⟩
noncomputable def C_dix (fu : Nat) (l : WL) (lo len : Nat) (t : Int) : Cfg := Cfg.of tis F53 fu (List.length ([.rows (.box 92 (.pair (.int .i64) (.int .i64))) l false, .var [.int .i64 t]] : List Blk)) Try.f53.ntmps
noncomputable def S.dix_b0 : Code := codeAt (bodyOf Try.f53) [1, 0, 1, 0, 0]
noncomputable def S.dix_s0 (l : WL) (lo len : Nat) (t : Int) (y0 : Int) (y1 : Int) : St := ⟨[(0, (.slice 1 0 (lo) (len) none)), (1, (.func 56 [(.ptr 1 (0) 0)])), (7, (.int .i64 (((len : Nat) : Int)))), (8, (.int .i64 (y0)))], [(.rows (Cd.box 92 (Cd.pair (Cd.int .i64) (Cd.int .i64))) (l) false), (.var [(.int .i64 (y1))])]⟩
noncomputable def S.dix_x0_0 (l : WL) (lo len : Nat) (t : Int) (z0 : Int) (z1 : Int) : St := ⟨[(4, (.int .i64 (z0)))], [(.rows (Cd.box 92 (Cd.pair (Cd.int .i64) (Cd.int .i64))) (l) false), (.var [(.int .i64 (z1))])]⟩
noncomputable def S.dix_x0_1 (l : WL) (lo len : Nat) (t : Int) (z0 : Int) (z1 : Bool) (z2 : Int) : St := ⟨[(0, (.slice 1 0 (lo) (len) none)), (1, (.func 56 [(.ptr 1 (0) 0)])), (7, (.int .i64 (((len : Nat) : Int)))), (8, (.int .i64 (z0))), (9, (.bool (z1)))], [(.rows (Cd.box 92 (Cd.pair (Cd.int .i64) (Cd.int .i64))) (l) false), (.var [(.int .i64 (z2))])]⟩
theorem S.dix_l0_k {R : Type} (fu : Nat) (l : WL) (lo len : Nat) (t : Int) (n : Nat) (K : Ex → St → Option R) (y0 : Int) (y1 : Int) : loopRun (C_dix fu l lo len t) G56 S.dix_b0 (n + 1) (S.dix_s0 l lo len t (y0) (y1)) K =
  (bif decide (y0 < ((len : Nat) : Int)) then
    bif inB y0 len then
      (optK (l[Int.toNat y0 + lo]?) fun o4 =>
        (optC (o4) (K (Ex.ret) (S.dix_x0_0 l lo len t (y0) (Prod.snd (S.dold1 y1)))) fun o5 =>
          bif Prod.fst (S.dold (Prod.fst o5) (Prod.snd o5) y1) then
            K (Ex.ret) (S.dix_x0_0 l lo len t (y0) (Prod.snd (S.dold (Prod.fst o5) (Prod.snd o5) y1)))
          else
            loopRun (C_dix fu l lo len t) G56 S.dix_b0 n (S.dix_s0 l lo len t (Go.IntKind.wrap .i64 (y0 + 1)) (Prod.snd (S.dold (Prod.fst o5) (Prod.snd o5) y1))) K))
    else
      none
  else
    K (Ex.exit 0) (S.dix_x0_1 l lo len t (y0) (decide (y0 < ((len : Nat) : Int))) (y1))) := by kernel_rfl
def S.dix_l0 (fu : Nat) (l : WL) (lo len : Nat) (t : Int) : Nat → (Int) → (Int) → Option ((Int × Int) ⊕ (Int × Bool × Int))
  | 0, _, _ => none
  | n + 1, y0, y1 =>
    bif decide (y0 < ((len : Nat) : Int)) then
      bif inB y0 len then
        (optK (l[Int.toNat y0 + lo]?) fun o4 =>
          (optC (o4) (some (.inl (y0, Prod.snd (S.dold1 y1)))) fun o5 =>
            bif Prod.fst (S.dold (Prod.fst o5) (Prod.snd o5) y1) then
              some (.inl (y0, Prod.snd (S.dold (Prod.fst o5) (Prod.snd o5) y1)))
            else
              (S.dix_l0 fu l lo len t n) (Go.IntKind.wrap .i64 (y0 + 1)) (Prod.snd (S.dold (Prod.fst o5) (Prod.snd o5) y1))))
      else
        none
    else
      some (.inr (y0, decide (y0 < ((len : Nat) : Int)), y1))
theorem S.dix_l0_v {R : Type} (fu : Nat) (l : WL) (lo len : Nat) (t : Int) (K : Ex → St → Option R) : ∀ (n : Nat) (y0 : Int) (y1 : Int), loopRun (C_dix fu l lo len t) G56 S.dix_b0 n (S.dix_s0 l lo len t (y0) (y1)) K = oK (β := (Int × Int) ⊕ (Int × Bool × Int)) (Sum.elim (fun z : Int × Int => K (Ex.ret) (S.dix_x0_0 l lo len t (z.1) (z.2))) (fun z : Int × Bool × Int => K (Ex.exit 0) (S.dix_x0_1 l lo len t (z.1) (z.2.1) (z.2.2)))) (S.dix_l0 fu l lo len t n y0 y1)
  | 0, _, _ => rfl
  | n + 1, y0, y1 => (S.dix_l0_k fu l lo len t n K y0 y1).trans (bif_lift (f := (oK (β := (Int × Int) ⊕ (Int × Bool × Int)) (Sum.elim (fun z : Int × Int => K (Ex.ret) (S.dix_x0_0 l lo len t (z.1) (z.2))) (fun z : Int × Bool × Int => K (Ex.exit 0) (S.dix_x0_1 l lo len t (z.1) (z.2.1) (z.2.2)))))) (bif_lift (f := (oK (β := (Int × Int) ⊕ (Int × Bool × Int)) (Sum.elim (fun z : Int × Int => K (Ex.ret) (S.dix_x0_0 l lo len t (z.1) (z.2))) (fun z : Int × Bool × Int => K (Ex.exit 0) (S.dix_x0_1 l lo len t (z.1) (z.2.1) (z.2.2)))))) (opt_lift fun o4 => (optC_lift (f := (oK (β := (Int × Int) ⊕ (Int × Bool × Int)) (Sum.elim (fun z : Int × Int => K (Ex.ret) (S.dix_x0_0 l lo len t (z.1) (z.2))) (fun z : Int × Bool × Int => K (Ex.exit 0) (S.dix_x0_1 l lo len t (z.1) (z.2.1) (z.2.2)))))) rfl fun o5 => (bif_lift (f := (oK (β := (Int × Int) ⊕ (Int × Bool × Int)) (Sum.elim (fun z : Int × Int => K (Ex.ret) (S.dix_x0_0 l lo len t (z.1) (z.2))) (fun z : Int × Bool × Int => K (Ex.exit 0) (S.dix_x0_1 l lo len t (z.1) (z.2.1) (z.2.2)))))) rfl (S.dix_l0_v fu l lo len t K n (Go.IntKind.wrap .i64 (y0 + 1)) (Prod.snd (S.dold (Prod.fst o5) (Prod.snd o5) y1)))))) rfl) rfl)
theorem S.dix_a0_1_k {R : Type} (fu : Nat) (l : WL) (lo len : Nat) (t : Int) (z0 : Int) (z1 : Bool) (z2 : Int) (k : AVal → List Blk → Option R) : contOf (C_dix fu l lo len t) G56 (bodyOf Try.f53) [1, 0, 1, 0] (retK tis F53 Try.f53 (List.length ([.rows (.box 92 (.pair (.int .i64) (.int .i64))) l false, .var [.int .i64 t]] : List Blk)) k) (Ex.exit 0) (S.dix_x0_1 l lo len t (z0) (z1) (z2)) =
  (k (.int .i64 (-1)) ([.rows (Cd.box 92 (Cd.pair (Cd.int .i64) (Cd.int .i64))) l false, .var [.int .i64 z2]])) := by kernel_rfl
def S.dix_a0_1 (fu : Nat) (l : WL) (lo len : Nat) (t : Int) (z0 : Int) (z1 : Bool) (z2 : Int) : Option (Int × WL × Int) :=
  some (-1, l, z2)
theorem S.dix_a0_1_v {R : Type} (fu : Nat) (l : WL) (lo len : Nat) (t : Int) (z0 : Int) (z1 : Bool) (z2 : Int) (k : AVal → List Blk → Option R) : contOf (C_dix fu l lo len t) G56 (bodyOf Try.f53) [1, 0, 1, 0] (retK tis F53 Try.f53 (List.length ([.rows (.box 92 (.pair (.int .i64) (.int .i64))) l false, .var [.int .i64 t]] : List Blk)) k) (Ex.exit 0) (S.dix_x0_1 l lo len t (z0) (z1) (z2)) = oK (fun v : Int × WL × Int => k (.int .i64 v.1) [(.rows (Cd.box 92 (Cd.pair (Cd.int .i64) (Cd.int .i64))) v.2.1 false), (.var [(.int .i64 v.2.2)])]) (S.dix_a0_1 fu l lo len t z0 z1 z2) :=
  (S.dix_a0_1_k fu l lo len t z0 z1 z2 k).trans rfl
theorem S.dix_a0_0_k {R : Type} (fu : Nat) (l : WL) (lo len : Nat) (t : Int) (z0 : Int) (z1 : Int) (k : AVal → List Blk → Option R) : contOf (C_dix fu l lo len t) G56 (bodyOf Try.f53) [1, 0, 1, 0] (retK tis F53 Try.f53 (List.length ([.rows (.box 92 (.pair (.int .i64) (.int .i64))) l false, .var [.int .i64 t]] : List Blk)) k) (Ex.ret) (S.dix_x0_0 l lo len t (z0) (z1)) =
  (k (.int .i64 z0) ([.rows (Cd.box 92 (Cd.pair (Cd.int .i64) (Cd.int .i64))) l false, .var [.int .i64 z1]])) := by kernel_rfl
def S.dix_a0_0 (fu : Nat) (l : WL) (lo len : Nat) (t : Int) (z0 : Int) (z1 : Int) : Option (Int × WL × Int) :=
  some (z0, l, z1)
theorem S.dix_a0_0_v {R : Type} (fu : Nat) (l : WL) (lo len : Nat) (t : Int) (z0 : Int) (z1 : Int) (k : AVal → List Blk → Option R) : contOf (C_dix fu l lo len t) G56 (bodyOf Try.f53) [1, 0, 1, 0] (retK tis F53 Try.f53 (List.length ([.rows (.box 92 (.pair (.int .i64) (.int .i64))) l false, .var [.int .i64 t]] : List Blk)) k) (Ex.ret) (S.dix_x0_0 l lo len t (z0) (z1)) = oK (fun v : Int × WL × Int => k (.int .i64 v.1) [(.rows (Cd.box 92 (Cd.pair (Cd.int .i64) (Cd.int .i64))) v.2.1 false), (.var [(.int .i64 v.2.2)])]) (S.dix_a0_0 fu l lo len t z0 z1) :=
  (S.dix_a0_0_k fu l lo len t z0 z1 k).trans rfl
theorem S.dix_k {R : Type} (fu : Nat) (l : WL) (lo len : Nat) (t : Int) (k : AVal → List Blk → Option R) : fnEval tis F53 fu G56 Try.f53 [.slice 1 0 lo len none, .func 56 [.ptr 1 0 0]] [.rows (.box 92 (.pair (.int .i64) (.int .i64))) l false, .var [.int .i64 t]] k =
  (loopRun (C_dix fu l lo len t) G56 S.dix_b0 fu (S.dix_s0 l lo len t (0) (t)) (contOf (C_dix fu l lo len t) G56 (bodyOf Try.f53) [1, 0, 1, 0] (retK tis F53 Try.f53 (List.length ([.rows (.box 92 (.pair (.int .i64) (.int .i64))) l false, .var [.int .i64 t]] : List Blk)) k))) := by kernel_rfl
def S.dix (fu : Nat) (l : WL) (lo len : Nat) (t : Int) : Option (Int × WL × Int) :=
  optK (S.dix_l0 fu l lo len t fu (0) (t)) (Sum.elim (fun z : Int × Int => S.dix_a0_0 fu l lo len t (z.1) (z.2)) (fun z : Int × Bool × Int => S.dix_a0_1 fu l lo len t (z.1) (z.2.1) (z.2.2)))
theorem S.dix_v {R : Type} (fu : Nat) (l : WL) (lo len : Nat) (t : Int) (k : AVal → List Blk → Option R) : fnEval tis F53 fu G56 Try.f53 [.slice 1 0 lo len none, .func 56 [.ptr 1 0 0]] [.rows (.box 92 (.pair (.int .i64) (.int .i64))) l false, .var [.int .i64 t]] k = oK (fun v : Int × WL × Int => k (.int .i64 v.1) [(.rows (Cd.box 92 (Cd.pair (Cd.int .i64) (Cd.int .i64))) v.2.1 false), (.var [(.int .i64 v.2.2)])]) (S.dix fu l lo len t) :=
  (S.dix_k fu l lo len t k).trans (arr_lift (S.dix_l0_v fu l lo len t (contOf (C_dix fu l lo len t) G56 (bodyOf Try.f53) [1, 0, 1, 0] (retK tis F53 Try.f53 (List.length ([.rows (.box 92 (.pair (.int .i64) (.int .i64))) l false, .var [.int .i64 t]] : List Blk)) k)) fu (0) (t)) ((sum_lift (fun z => S.dix_a0_0_v fu l lo len t (z.1) (z.2) k) (fun z => S.dix_a0_1_v fu l lo len t (z.1) (z.2.1) (z.2.2) k))))
noncomputable def C_dix1 (fu : Nat) (t : Int) : Cfg := Cfg.of tis F53 fu (List.length ([.var [.int .i64 t]] : List Blk)) Try.f53.ntmps
noncomputable def S.dix1_b0 : Code := codeAt (bodyOf Try.f53) [1, 0, 1, 0, 0]
noncomputable def S.dix1_s0 (t : Int)  : St := ⟨[(0, .nils), (1, (.func 56 [(.ptr 0 (0) 0)])), (7, (.int .i64 (0))), (8, (.int .i64 (0)))], [(.var [(.int .i64 (t))])]⟩
noncomputable def S.dix1_x0_0 (t : Int)  : St := ⟨[(0, .nils), (1, (.func 56 [(.ptr 0 (0) 0)])), (7, (.int .i64 (0))), (8, (.int .i64 (0))), (9, (.bool (false)))], [(.var [(.int .i64 (t))])]⟩
theorem S.dix1_l0_k {R : Type} (fu : Nat) (t : Int) (n : Nat) (K : Ex → St → Option R)  : loopRun (C_dix1 fu t) G56 S.dix1_b0 (n + 1) (S.dix1_s0 t) K =
  (K (Ex.exit 0) (S.dix1_x0_0 t)) := by kernel_rfl
def S.dix1_l0 (fu : Nat) (t : Int) : Nat → Option ((Unit))
  | 0 => none
  | n + 1 =>
    some ()
theorem S.dix1_l0_v {R : Type} (fu : Nat) (t : Int) (K : Ex → St → Option R) : ∀ (n : Nat) , loopRun (C_dix1 fu t) G56 S.dix1_b0 n (S.dix1_s0 t) K = oK (β := (Unit)) (fun z : Unit => K (Ex.exit 0) (S.dix1_x0_0 t)) (S.dix1_l0 fu t n)
  | 0 => rfl
  | n + 1 => (S.dix1_l0_k fu t n K).trans rfl
theorem S.dix1_a0_0_k {R : Type} (fu : Nat) (t : Int)  (k : AVal → List Blk → Option R) : contOf (C_dix1 fu t) G56 (bodyOf Try.f53) [1, 0, 1, 0] (retK tis F53 Try.f53 (List.length ([.var [.int .i64 t]] : List Blk)) k) (Ex.exit 0) (S.dix1_x0_0 t) =
  (k (.int .i64 (-1)) ([.var [.int .i64 t]])) := by kernel_rfl
def S.dix1_a0_0 (fu : Nat) (t : Int)  : Option (Int × Int) :=
  some (-1, t)
theorem S.dix1_a0_0_v {R : Type} (fu : Nat) (t : Int)  (k : AVal → List Blk → Option R) : contOf (C_dix1 fu t) G56 (bodyOf Try.f53) [1, 0, 1, 0] (retK tis F53 Try.f53 (List.length ([.var [.int .i64 t]] : List Blk)) k) (Ex.exit 0) (S.dix1_x0_0 t) = oK (fun v : Int × Int => k (.int .i64 v.1) [(.var [(.int .i64 v.2)])]) (S.dix1_a0_0 fu t) :=
  (S.dix1_a0_0_k fu t k).trans rfl
theorem S.dix1_k {R : Type} (fu : Nat) (t : Int) (k : AVal → List Blk → Option R) : fnEval tis F53 fu G56 Try.f53 [.nils, .func 56 [.ptr 0 0 0]] [.var [.int .i64 t]] k =
  (loopRun (C_dix1 fu t) G56 S.dix1_b0 fu (S.dix1_s0 t) (contOf (C_dix1 fu t) G56 (bodyOf Try.f53) [1, 0, 1, 0] (retK tis F53 Try.f53 (List.length ([.var [.int .i64 t]] : List Blk)) k))) := by kernel_rfl
def S.dix1 (fu : Nat) (t : Int) : Option (Int × Int) :=
  optK (S.dix1_l0 fu t fu) (fun z : Unit => S.dix1_a0_0 fu t)
theorem S.dix1_v {R : Type} (fu : Nat) (t : Int) (k : AVal → List Blk → Option R) : fnEval tis F53 fu G56 Try.f53 [.nils, .func 56 [.ptr 0 0 0]] [.var [.int .i64 t]] k = oK (fun v : Int × Int => k (.int .i64 v.1) [(.var [(.int .i64 v.2)])]) (S.dix1 fu t) :=
  (S.dix1_k fu t k).trans (arr_lift (S.dix1_l0_v fu t (contOf (C_dix1 fu t) G56 (bodyOf Try.f53) [1, 0, 1, 0] (retK tis F53 Try.f53 (List.length ([.var [.int .i64 t]] : List Blk)) k)) fu) ((fun z => S.dix1_a0_0_v fu t k)))
def H53 : Hnd := fun R args σ k => match args, σ with
  | [.slice 1 0 lo len none, .func 56 [.ptr 1 0 0]], [.rows (.box 92 (.pair (.int .i64) (.int .i64))) l false, .var [.int .i64 t]] => oK (fun v : Int × WL × Int => k (.int .i64 v.1) [(.rows (Cd.box 92 (Cd.pair (Cd.int .i64) (Cd.int .i64))) v.2.1 false), (.var [(.int .i64 v.2.2)])]) (S.dix 100000 l lo len t)
  | [.nils, .func 56 [.ptr 0 0 0]], [.var [.int .i64 t]] => oK (fun v : Int × Int => k (.int .i64 v.1) [(.var [(.int .i64 v.2)])]) (S.dix1 100000 t)
  | _, _ => none
theorem H53_ok : HndOk Try.prog 53 H53 := hnd_ok tis tisOk mixOk G56_ok F53 Try.func53 rfl (by
  intro R args σ k r h
  unfold H53 at h
  split at h
  · rename_i lo len l t; exact ⟨100000, (S.dix_v 100000 l lo len t _).trans h⟩
  · rename_i t; exact ⟨100000, (S.dix1_v 100000 t _).trans h⟩
  · cases h)
def G53 : Env := Env.add 53 H53 G56
theorem G53_ok : EnvOk Try.prog G53 := envAdd_ok H53_ok G56_ok

/-! slices.DeleteFunc[[]any,any] -/
def F55 : FCfg := ⟨keepAt [(0, [0, 1]), (1, [0, 1, 5]), (2, [0, 1, 5, 12]), (3, [4]), (4, [0, 1, 5, 6]), (5, [0, 1, 5, 6, 19]), (6, [0, 1, 5, 6]), (7, [0, 1, 5, 6, 7]), (8, [0, 1, 5, 6, 7, 29]), (9, [0, 1, 5, 6]), (10, [0, 1, 5, 6]), (11, [0, 5]), (12, [4])], loopAt [(5, [0, 1, 5, 6], [])], []⟩
noncomputable def C_ddel (fu : Nat) (l : WL) (lo len : Nat) (t : Int) : Cfg := Cfg.of tis F55 fu (List.length ([.rows (.box 92 (.pair (.int .i64) (.int .i64))) l false, .var [.int .i64 t]] : List Blk)) Try.f55.ntmps
noncomputable def S.ddel_b0 : Code := codeAt (bodyOf Try.f55) [1, 1, 1, 0, 1, 0, 0]
noncomputable def S.ddel_s0 (l : WL) (lo len : Nat) (t : Int) (y0 : Int) (y1 : Int) (y2 : List (Option (Int × Int))) (y3 : Int) : St := ⟨[(0, (.slice 1 0 (lo) (len) none)), (1, (.func 56 [(.ptr 1 (0) 0)])), (5, (.int .i64 (y0))), (6, (.int .i64 (y1)))], [(.rows (Cd.box 92 (Cd.pair (Cd.int .i64) (Cd.int .i64))) (y2) false), (.var [(.int .i64 (y3))])]⟩
noncomputable def S.ddel_x0_0 (l : WL) (lo len : Nat) (t : Int) (z0 : Int) (z1 : Int) (z2 : Bool) (z3 : List (Option (Int × Int))) (z4 : Int) : St := ⟨[(0, (.slice 1 0 (lo) (len) none)), (1, (.func 56 [(.ptr 1 (0) 0)])), (5, (.int .i64 (z0))), (6, (.int .i64 (z1))), (19, (.bool (z2)))], [(.rows (Cd.box 92 (Cd.pair (Cd.int .i64) (Cd.int .i64))) (z3) false), (.var [(.int .i64 (z4))])]⟩
theorem S.ddel_l0_k {R : Type} (fu : Nat) (l : WL) (lo len : Nat) (t : Int) (n : Nat) (K : Ex → St → Option R) (y0 : Int) (y1 : Int) (y2 : List (Option (Int × Int))) (y3 : Int) : loopRun (C_ddel fu l lo len t) G53 S.ddel_b0 (n + 1) (S.ddel_s0 l lo len t (y0) (y1) (y2) (y3)) K =
  (bif decide (y1 < ((len : Nat) : Int)) then
    bif inB y1 len then
      (optK (y2[Int.toNat y1 + lo]?) fun o4 =>
        (optC (o4) (loopRun (C_ddel fu l lo len t) G53 S.ddel_b0 n (S.ddel_s0 l lo len t (y0) (Go.IntKind.wrap .i64 (y1 + 1)) (y2) (Prod.snd (S.dold1 y3))) K) fun o5 =>
          bif !Prod.fst (S.dold (Prod.fst o5) (Prod.snd o5) y3) then
            bif inB y0 len then
              bif Nat.blt (Int.toNat y0 + lo) (List.length y2) then
                loopRun (C_ddel fu l lo len t) G53 S.ddel_b0 n (S.ddel_s0 l lo len t (Go.IntKind.wrap .i64 (y0 + 1)) (Go.IntKind.wrap .i64 (y1 + 1)) (List.set y2 (Int.toNat y0 + lo) (Option.some (Prod.fst o5, Prod.snd o5))) (Prod.snd (S.dold (Prod.fst o5) (Prod.snd o5) y3))) K
              else
                none
            else
              none
          else
            loopRun (C_ddel fu l lo len t) G53 S.ddel_b0 n (S.ddel_s0 l lo len t (y0) (Go.IntKind.wrap .i64 (y1 + 1)) (y2) (Prod.snd (S.dold (Prod.fst o5) (Prod.snd o5) y3))) K))
    else
      none
  else
    K (Ex.exit 0) (S.ddel_x0_0 l lo len t (y0) (y1) (decide (y1 < ((len : Nat) : Int))) (y2) (y3))) := by kernel_rfl
def S.ddel_l0 (fu : Nat) (l : WL) (lo len : Nat) (t : Int) : Nat → (Int) → (Int) → (List (Option (Int × Int))) → (Int) → Option ((Int × Int × Bool × List (Option (Int × Int)) × Int))
  | 0, _, _, _, _ => none
  | n + 1, y0, y1, y2, y3 =>
    bif decide (y1 < ((len : Nat) : Int)) then
      bif inB y1 len then
        (optK (y2[Int.toNat y1 + lo]?) fun o4 =>
          (optC (o4) ((S.ddel_l0 fu l lo len t n) (y0) (Go.IntKind.wrap .i64 (y1 + 1)) (y2) (Prod.snd (S.dold1 y3))) fun o5 =>
            bif !Prod.fst (S.dold (Prod.fst o5) (Prod.snd o5) y3) then
              bif inB y0 len then
                bif Nat.blt (Int.toNat y0 + lo) (List.length y2) then
                  (S.ddel_l0 fu l lo len t n) (Go.IntKind.wrap .i64 (y0 + 1)) (Go.IntKind.wrap .i64 (y1 + 1)) (List.set y2 (Int.toNat y0 + lo) (Option.some (Prod.fst o5, Prod.snd o5))) (Prod.snd (S.dold (Prod.fst o5) (Prod.snd o5) y3))
                else
                  none
              else
                none
            else
              (S.ddel_l0 fu l lo len t n) (y0) (Go.IntKind.wrap .i64 (y1 + 1)) (y2) (Prod.snd (S.dold (Prod.fst o5) (Prod.snd o5) y3))))
      else
        none
    else
      some (y0, y1, decide (y1 < ((len : Nat) : Int)), y2, y3)
theorem S.ddel_l0_v {R : Type} (fu : Nat) (l : WL) (lo len : Nat) (t : Int) (K : Ex → St → Option R) : ∀ (n : Nat) (y0 : Int) (y1 : Int) (y2 : List (Option (Int × Int))) (y3 : Int), loopRun (C_ddel fu l lo len t) G53 S.ddel_b0 n (S.ddel_s0 l lo len t (y0) (y1) (y2) (y3)) K = oK (β := (Int × Int × Bool × List (Option (Int × Int)) × Int)) (fun z : Int × Int × Bool × List (Option (Int × Int)) × Int => K (Ex.exit 0) (S.ddel_x0_0 l lo len t (z.1) (z.2.1) (z.2.2.1) (z.2.2.2.1) (z.2.2.2.2))) (S.ddel_l0 fu l lo len t n y0 y1 y2 y3)
  | 0, _, _, _, _ => rfl
  | n + 1, y0, y1, y2, y3 => (S.ddel_l0_k fu l lo len t n K y0 y1 y2 y3).trans (bif_lift (f := (oK (β := (Int × Int × Bool × List (Option (Int × Int)) × Int)) (fun z : Int × Int × Bool × List (Option (Int × Int)) × Int => K (Ex.exit 0) (S.ddel_x0_0 l lo len t (z.1) (z.2.1) (z.2.2.1) (z.2.2.2.1) (z.2.2.2.2))))) (bif_lift (f := (oK (β := (Int × Int × Bool × List (Option (Int × Int)) × Int)) (fun z : Int × Int × Bool × List (Option (Int × Int)) × Int => K (Ex.exit 0) (S.ddel_x0_0 l lo len t (z.1) (z.2.1) (z.2.2.1) (z.2.2.2.1) (z.2.2.2.2))))) (opt_lift fun o4 => (optC_lift (f := (oK (β := (Int × Int × Bool × List (Option (Int × Int)) × Int)) (fun z : Int × Int × Bool × List (Option (Int × Int)) × Int => K (Ex.exit 0) (S.ddel_x0_0 l lo len t (z.1) (z.2.1) (z.2.2.1) (z.2.2.2.1) (z.2.2.2.2))))) (S.ddel_l0_v fu l lo len t K n (y0) (Go.IntKind.wrap .i64 (y1 + 1)) (y2) (Prod.snd (S.dold1 y3))) fun o5 => (bif_lift (f := (oK (β := (Int × Int × Bool × List (Option (Int × Int)) × Int)) (fun z : Int × Int × Bool × List (Option (Int × Int)) × Int => K (Ex.exit 0) (S.ddel_x0_0 l lo len t (z.1) (z.2.1) (z.2.2.1) (z.2.2.2.1) (z.2.2.2.2))))) (bif_lift (f := (oK (β := (Int × Int × Bool × List (Option (Int × Int)) × Int)) (fun z : Int × Int × Bool × List (Option (Int × Int)) × Int => K (Ex.exit 0) (S.ddel_x0_0 l lo len t (z.1) (z.2.1) (z.2.2.1) (z.2.2.2.1) (z.2.2.2.2))))) (bif_lift (f := (oK (β := (Int × Int × Bool × List (Option (Int × Int)) × Int)) (fun z : Int × Int × Bool × List (Option (Int × Int)) × Int => K (Ex.exit 0) (S.ddel_x0_0 l lo len t (z.1) (z.2.1) (z.2.2.1) (z.2.2.2.1) (z.2.2.2.2))))) (S.ddel_l0_v fu l lo len t K n (Go.IntKind.wrap .i64 (y0 + 1)) (Go.IntKind.wrap .i64 (y1 + 1)) (List.set y2 (Int.toNat y0 + lo) (Option.some (Prod.fst o5, Prod.snd o5))) (Prod.snd (S.dold (Prod.fst o5) (Prod.snd o5) y3))) rfl) rfl) (S.ddel_l0_v fu l lo len t K n (y0) (Go.IntKind.wrap .i64 (y1 + 1)) (y2) (Prod.snd (S.dold (Prod.fst o5) (Prod.snd o5) y3)))))) rfl) rfl)
theorem S.ddel_a0_0_k {R : Type} (fu : Nat) (l : WL) (lo len : Nat) (t : Int) (z0 : Int) (z1 : Int) (z2 : Bool) (z3 : List (Option (Int × Int))) (z4 : Int) (k : AVal → List Blk → Option R) : contOf (C_ddel fu l lo len t) G53 (bodyOf Try.f55) [1, 1, 1, 0, 1, 0] (retK tis F55 Try.f55 (List.length ([.rows (.box 92 (.pair (.int .i64) (.int .i64))) l false, .var [.int .i64 t]] : List Blk)) k) (Ex.exit 0) (S.ddel_x0_0 l lo len t (z0) (z1) (z2) (z3) (z4)) =
  (bif decide (0 ≤ z0 ∧ z0 ≤ ((len : Nat) : Int)) then
    bif Nat.ble (Int.toNat z0 + lo + (len - Int.toNat z0)) (List.length z3) then
      bif decide (0 ≤ z0 ∧ z0 ≤ ((len : Nat) : Int)) then
        k (.slice 1 0 lo (Int.toNat z0) Option.none) ([.rows (Cd.box 92 (Cd.pair (Cd.int .i64) (Cd.int .i64))) (List.take (Int.toNat z0 + lo) z3 ++ fillRows Option.none (len - Int.toNat z0) (List.drop (Int.toNat z0 + lo) z3)) false, .var [.int .i64 z4]])
      else
        none
    else
      none
  else
    none) := by kernel_rfl
def S.ddel_a0_0 (fu : Nat) (l : WL) (lo len : Nat) (t : Int) (z0 : Int) (z1 : Int) (z2 : Bool) (z3 : List (Option (Int × Int))) (z4 : Int) : Option (Nat × Nat × List (Option (Int × Int)) × Int) :=
  bif decide (0 ≤ z0 ∧ z0 ≤ ((len : Nat) : Int)) then
    bif Nat.ble (Int.toNat z0 + lo + (len - Int.toNat z0)) (List.length z3) then
      bif decide (0 ≤ z0 ∧ z0 ≤ ((len : Nat) : Int)) then
        some (lo, Int.toNat z0, List.take (Int.toNat z0 + lo) z3 ++ fillRows Option.none (len - Int.toNat z0) (List.drop (Int.toNat z0 + lo) z3), z4)
      else
        none
    else
      none
  else
    none
theorem S.ddel_a0_0_v {R : Type} (fu : Nat) (l : WL) (lo len : Nat) (t : Int) (z0 : Int) (z1 : Int) (z2 : Bool) (z3 : List (Option (Int × Int))) (z4 : Int) (k : AVal → List Blk → Option R) : contOf (C_ddel fu l lo len t) G53 (bodyOf Try.f55) [1, 1, 1, 0, 1, 0] (retK tis F55 Try.f55 (List.length ([.rows (.box 92 (.pair (.int .i64) (.int .i64))) l false, .var [.int .i64 t]] : List Blk)) k) (Ex.exit 0) (S.ddel_x0_0 l lo len t (z0) (z1) (z2) (z3) (z4)) = oK (fun v : Nat × Nat × List (Option (Int × Int)) × Int => k (.slice 1 0 v.1 v.2.1 none) [(.rows (Cd.box 92 (Cd.pair (Cd.int .i64) (Cd.int .i64))) v.2.2.1 false), (.var [(.int .i64 v.2.2.2)])]) (S.ddel_a0_0 fu l lo len t z0 z1 z2 z3 z4) :=
  (S.ddel_a0_0_k fu l lo len t z0 z1 z2 z3 z4 k).trans (bif_lift (f := (oK (fun v : Nat × Nat × List (Option (Int × Int)) × Int => k (.slice 1 0 v.1 v.2.1 none) [(.rows (Cd.box 92 (Cd.pair (Cd.int .i64) (Cd.int .i64))) v.2.2.1 false), (.var [(.int .i64 v.2.2.2)])]))) (bif_lift (f := (oK (fun v : Nat × Nat × List (Option (Int × Int)) × Int => k (.slice 1 0 v.1 v.2.1 none) [(.rows (Cd.box 92 (Cd.pair (Cd.int .i64) (Cd.int .i64))) v.2.2.1 false), (.var [(.int .i64 v.2.2.2)])]))) (bif_lift (f := (oK (fun v : Nat × Nat × List (Option (Int × Int)) × Int => k (.slice 1 0 v.1 v.2.1 none) [(.rows (Cd.box 92 (Cd.pair (Cd.int .i64) (Cd.int .i64))) v.2.2.1 false), (.var [(.int .i64 v.2.2.2)])]))) rfl rfl) rfl) rfl)
theorem S.ddel_k {R : Type} (fu : Nat) (l : WL) (lo len : Nat) (t : Int) (k : AVal → List Blk → Option R) : fnEval tis F55 fu G53 Try.f55 [.slice 1 0 lo len none, .func 56 [.ptr 1 0 0]] [.rows (.box 92 (.pair (.int .i64) (.int .i64))) l false, .var [.int .i64 t]] k =
  ((optK (S.dix 100000 l lo len t) fun o2 =>
    bif decide (Prod.fst o2 = -1) then
      k (.slice 1 0 lo len Option.none) ([.rows (Cd.box 92 (Cd.pair (Cd.int .i64) (Cd.int .i64))) (Prod.fst (Prod.snd o2)) false, .var [.int .i64 (Prod.snd (Prod.snd o2))]])
    else
      loopRun (C_ddel fu l lo len t) G53 S.ddel_b0 fu (S.ddel_s0 l lo len t (Prod.fst o2) (Go.IntKind.wrap .i64 (Prod.fst o2 + 1)) (Prod.fst (Prod.snd o2)) (Prod.snd (Prod.snd o2))) (contOf (C_ddel fu l lo len t) G53 (bodyOf Try.f55) [1, 1, 1, 0, 1, 0] (retK tis F55 Try.f55 (List.length ([.rows (.box 92 (.pair (.int .i64) (.int .i64))) l false, .var [.int .i64 t]] : List Blk)) k)))) := by kernel_rfl
def S.ddel (fu : Nat) (l : WL) (lo len : Nat) (t : Int) : Option (Nat × Nat × List (Option (Int × Int)) × Int) :=
  (optK (S.dix 100000 l lo len t) fun o2 =>
    bif decide (Prod.fst o2 = -1) then
      some (lo, len, Prod.fst (Prod.snd o2), Prod.snd (Prod.snd o2))
    else
      optK (S.ddel_l0 fu l lo len t fu (Prod.fst o2) (Go.IntKind.wrap .i64 (Prod.fst o2 + 1)) (Prod.fst (Prod.snd o2)) (Prod.snd (Prod.snd o2))) (fun z : Int × Int × Bool × List (Option (Int × Int)) × Int => S.ddel_a0_0 fu l lo len t (z.1) (z.2.1) (z.2.2.1) (z.2.2.2.1) (z.2.2.2.2)))
theorem S.ddel_v {R : Type} (fu : Nat) (l : WL) (lo len : Nat) (t : Int) (k : AVal → List Blk → Option R) : fnEval tis F55 fu G53 Try.f55 [.slice 1 0 lo len none, .func 56 [.ptr 1 0 0]] [.rows (.box 92 (.pair (.int .i64) (.int .i64))) l false, .var [.int .i64 t]] k = oK (fun v : Nat × Nat × List (Option (Int × Int)) × Int => k (.slice 1 0 v.1 v.2.1 none) [(.rows (Cd.box 92 (Cd.pair (Cd.int .i64) (Cd.int .i64))) v.2.2.1 false), (.var [(.int .i64 v.2.2.2)])]) (S.ddel fu l lo len t) :=
  (S.ddel_k fu l lo len t k).trans (opt_lift fun o2 => (bif_lift (f := (oK (fun v : Nat × Nat × List (Option (Int × Int)) × Int => k (.slice 1 0 v.1 v.2.1 none) [(.rows (Cd.box 92 (Cd.pair (Cd.int .i64) (Cd.int .i64))) v.2.2.1 false), (.var [(.int .i64 v.2.2.2)])]))) rfl (arr_lift (S.ddel_l0_v fu l lo len t (contOf (C_ddel fu l lo len t) G53 (bodyOf Try.f55) [1, 1, 1, 0, 1, 0] (retK tis F55 Try.f55 (List.length ([.rows (.box 92 (.pair (.int .i64) (.int .i64))) l false, .var [.int .i64 t]] : List Blk)) k)) fu (Prod.fst o2) (Go.IntKind.wrap .i64 (Prod.fst o2 + 1)) (Prod.fst (Prod.snd o2)) (Prod.snd (Prod.snd o2))) ((fun z => S.ddel_a0_0_v fu l lo len t (z.1) (z.2.1) (z.2.2.1) (z.2.2.2.1) (z.2.2.2.2) k)))))
noncomputable def C_ddel1 (fu : Nat) (t : Int) : Cfg := Cfg.of tis F55 fu (List.length ([.var [.int .i64 t]] : List Blk)) Try.f55.ntmps
noncomputable def S.ddel1_b0 : Code := codeAt (bodyOf Try.f55) [1, 1, 1, 0, 1, 0, 0]
theorem S.ddel1_k {R : Type} (fu : Nat) (t : Int) (k : AVal → List Blk → Option R) : fnEval tis F55 fu G53 Try.f55 [.nils, .func 56 [.ptr 0 0 0]] [.var [.int .i64 t]] k =
  (k (.nils) ([.var [.int .i64 t]])) := by kernel_rfl
def S.ddel1 (fu : Nat) (t : Int) : Option (Int) :=
  some (t)
theorem S.ddel1_v {R : Type} (fu : Nat) (t : Int) (k : AVal → List Blk → Option R) : fnEval tis F55 fu G53 Try.f55 [.nils, .func 56 [.ptr 0 0 0]] [.var [.int .i64 t]] k = oK (fun v : Int => k .nils [(.var [(.int .i64 v)])]) (S.ddel1 fu t) :=
  (S.ddel1_k fu t k).trans rfl
def H55 : Hnd := fun R args σ k => match args, σ with
  | [.slice 1 0 lo len none, .func 56 [.ptr 1 0 0]], [.rows (.box 92 (.pair (.int .i64) (.int .i64))) l false, .var [.int .i64 t]] => oK (fun v : Nat × Nat × List (Option (Int × Int)) × Int => k (.slice 1 0 v.1 v.2.1 none) [(.rows (Cd.box 92 (Cd.pair (Cd.int .i64) (Cd.int .i64))) v.2.2.1 false), (.var [(.int .i64 v.2.2.2)])]) (S.ddel 100000 l lo len t)
  | [.nils, .func 56 [.ptr 0 0 0]], [.var [.int .i64 t]] => oK (fun v : Int => k .nils [(.var [(.int .i64 v)])]) (S.ddel1 100000 t)
  | _, _ => none
theorem H55_ok : HndOk Try.prog 55 H55 := hnd_ok tis tisOk mixOk G53_ok F55 Try.func55 rfl (by
  intro R args σ k r h
  unfold H55 at h
  split at h
  · rename_i lo len l t; exact ⟨100000, (S.ddel_v 100000 l lo len t _).trans h⟩
  · rename_i t; exact ⟨100000, (S.ddel1_v 100000 t _).trans h⟩
  · cases h)
def G55 : Env := Env.add 55 H55 G53
theorem G55_ok : EnvOk Try.prog G55 := envAdd_ok H55_ok G53_ok
end Go.Proofs.Ytfoaihjkmfhaoaa.AB
