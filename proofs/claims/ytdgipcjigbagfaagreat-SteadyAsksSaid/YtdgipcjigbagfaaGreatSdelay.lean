/- The functions of layer 15, as plain functions. -/
import Derived.Test.YtdgipcjigbagfaaGreatSring2
namespace Go.Proofs.YtdgipcjigbagfaaGreat.AB
set_option linter.unusedVariables false

/-! delay.New -/
def F34 : FCfg := ⟨keepAt [(0, [0]), (1, [0, 8]), (2, [2]), (3, [2])], loopAt [], []⟩
noncomputable def S.dnew_L {R : Type} (sp : Int) (k : AVal → List Blk → Option R) : Option R := fnEval tis F34 0 G95 Tryz.f34 [.int .i64 sp] [] k
noncomputable def S.dnew_gk {R : Type} (sp : Int) (k : AVal → List Blk → Option R) : ((Unit) ⊕ (Int)) → Option R := (Sum.elim (fun v : Unit => k .nilp []) (fun v : Int => k (.ptr 0 (0) 0) [(.var [.nils, (.int .i64 v), (.int .i64 (0))])]))
noncomputable def S.dnew (sp : Int) : (Unit) ⊕ (Int) :=
  bif decide (sp < 0) then
   (.inl ())
 else
   bif decide (600 < sp) then
   (.inl ())
 else
   (.inr (sp))
theorem S.dnew_v {R : Type} (sp : Int) (k : AVal → List Blk → Option R) : S.dnew_L sp k = (S.dnew_gk sp k) (S.dnew sp) :=
  Eq.trans (b := (bif decide (sp < 0) then
   (S.dnew_gk sp k) (.inl ())
 else
   bif decide (600 < sp) then
   (S.dnew_gk sp k) (.inl ())
 else
   (S.dnew_gk sp k) (.inr (sp)))) (by kernel_rfl) (bif_lift (f := (S.dnew_gk sp k)) rfl (bif_lift (f := (S.dnew_gk sp k)) rfl rfl))
noncomputable def H34 : Hnd := fun R args σ k => match args, σ with
  | [.int .i64 sp], [] => (Sum.elim (fun v : Unit => k .nilp []) (fun v : Int => k (.ptr 0 (0) 0) [(.var [.nils, (.int .i64 v), (.int .i64 (0))])])) (S.dnew sp)
  | _, _ => none
theorem H34_ok : HndOk Tryz.prog 34 H34 := hnd_ok tis tisOk mixOk G95_ok F34 Tryz.func34 rfl (by
  intro R args σ k r h
  unfold H34 at h
  split at h
  · rename_i sp; exact ⟨0, (S.dnew_v sp _).trans h⟩
  · cases h)
noncomputable def G34 : Env := Env.add 34 H34 G95
theorem G34_ok : EnvOk Tryz.prog G34 := envAdd_ok H34_ok G95_ok

/-! (*delay.Delay).Put -/
def F51 : FCfg := ⟨keepAt [(0, [0, 2, 4]), (1, [0, 2, 4, 7]), (2, [6]), (3, [0, 2, 4, 10]), (4, [6]), (5, [0, 2, 4]), (6, [0, 2, 4]), (7, []), (8, [6])], loopAt [], [⟨1, false, 0, [], 0, (.box 115 (.pair (.int .i64) (.int .i64))), none⟩, ⟨2, false, 0, [0], 0, .bool, none⟩]⟩
noncomputable def S.dput_L {R : Type} (l : WL) (lo len : Nat) (sp la t w : Int) (k : AVal → List Blk → Option R) : Option R := fnEval tis F51 0 G34 Tryz.f51 [.ptr 0 0 0, .int .i64 t, .int .i64 w] [.var [.slice 1 1 lo len none, .int .i64 sp, .int .i64 la], .rows (.box 115 (.pair (.int .i64) (.int .i64))) l false] k
noncomputable def S.dput_gk {R : Type} (l : WL) (lo len : Nat) (sp la t w : Int) (k : AVal → List Blk → Option R) : (Int × Nat × Nat × Int × Int × WL) → Option R := (fun v : Int × Nat × Nat × Int × Int × WL => k (.int .i64 v.1) [(.var [(.slice 1 2 v.2.1 v.2.2.1 none), (.int .i64 v.2.2.2.1), (.int .i64 v.2.2.2.2.1)]), .dead, (.rows (Cd.box 115 (Cd.pair (Cd.int .i64) (Cd.int .i64))) v.2.2.2.2.2 false)])
noncomputable def S.dput (l : WL) (lo len : Nat) (sp la t w : Int) : Option (Int × Nat × Nat × Int × Int × WL) :=
  bif decide (t < la) then
   some (1, lo, len, sp, la, l)
 else
   bif decide (1099511627776 < t) then
   some (1, lo, len, sp, la, l)
 else
   bif decide (w < 0) then
   some (1, lo, len, sp, la, l)
 else
   bif decide (1000000 < w) then
   some (1, lo, len, sp, la, l)
 else
   (optK (S.ddel 100000 l lo len t) fun o6 =>
   bif Nat.beq 1 1 && Nat.blt 0 16 && Nat.beq 1 1 && Nat.beq 1 1 && Nat.beq 1 1 && Nat.blt 0 1 && !Nat.beq 1 3 && Nat.ble ((o6.2.1 + 1) * 16) 35184372088832 then
   some (0, 0, List.length (cutL o6.2.2.1 o6.1 o6.2.1 ++ cutL [Option.some (o6.2.2.2, w)] 0 1), sp, t, cutL o6.2.2.1 o6.1 o6.2.1 ++ cutL [Option.some (o6.2.2.2, w)] 0 1)
 else
   none)
theorem S.dput_v {R : Type} (l : WL) (lo len : Nat) (sp la t w : Int) (k : AVal → List Blk → Option R) : S.dput_L l lo len sp la t w k = oK (S.dput_gk l lo len sp la t w k) (S.dput l lo len sp la t w) :=
  Eq.trans (b := (bif decide (t < la) then
   (S.dput_gk l lo len sp la t w k) (1, lo, len, sp, la, l)
 else
   bif decide (1099511627776 < t) then
   (S.dput_gk l lo len sp la t w k) (1, lo, len, sp, la, l)
 else
   bif decide (w < 0) then
   (S.dput_gk l lo len sp la t w k) (1, lo, len, sp, la, l)
 else
   bif decide (1000000 < w) then
   (S.dput_gk l lo len sp la t w k) (1, lo, len, sp, la, l)
 else
   (optK (S.ddel 100000 l lo len t) fun o6 =>
   bif Nat.beq 1 1 && Nat.blt 0 16 && Nat.beq 1 1 && Nat.beq 1 1 && Nat.beq 1 1 && Nat.blt 0 1 && !Nat.beq 1 3 && Nat.ble ((o6.2.1 + 1) * 16) 35184372088832 then
   (S.dput_gk l lo len sp la t w k) (0, 0, List.length (cutL o6.2.2.1 o6.1 o6.2.1 ++ cutL [Option.some (o6.2.2.2, w)] 0 1), sp, t, cutL o6.2.2.1 o6.1 o6.2.1 ++ cutL [Option.some (o6.2.2.2, w)] 0 1)
 else
   none))) (by kernel_rfl) (bif_lift (f := (oK (S.dput_gk l lo len sp la t w k))) rfl (bif_lift (f := (oK (S.dput_gk l lo len sp la t w k))) rfl (bif_lift (f := (oK (S.dput_gk l lo len sp la t w k))) rfl (bif_lift (f := (oK (S.dput_gk l lo len sp la t w k))) rfl (opt_lift fun o6 => (bif_lift (f := (oK (S.dput_gk l lo len sp la t w k))) rfl rfl))))))
noncomputable def H51 : Hnd := fun R args σ k => match args, σ with
  | [.ptr 0 0 0, .int .i64 t, .int .i64 w], [.var [.slice 1 1 lo len none, .int .i64 sp, .int .i64 la], .rows (.box 115 (.pair (.int .i64) (.int .i64))) l false] => oK (fun v : Int × Nat × Nat × Int × Int × WL => k (.int .i64 v.1) [(.var [(.slice 1 2 v.2.1 v.2.2.1 none), (.int .i64 v.2.2.2.1), (.int .i64 v.2.2.2.2.1)]), .dead, (.rows (Cd.box 115 (Cd.pair (Cd.int .i64) (Cd.int .i64))) v.2.2.2.2.2 false)]) (S.dput l lo len sp la t w)
  | _, _ => none
theorem H51_ok : HndOk Tryz.prog 51 H51 := hnd_ok tis tisOk mixOk G34_ok F51 Tryz.func51 rfl (by
  intro R args σ k r h
  unfold H51 at h
  split at h
  · rename_i t w lo len sp la l; exact ⟨0, (S.dput_v l lo len sp la t w _).trans h⟩
  · cases h)
noncomputable def G51 : Env := Env.add 51 H51 G34
theorem G51_ok : EnvOk Tryz.prog G51 := envAdd_ok H51_ok G34_ok

/-! (*delay.Delay).Most -/
def F53 : FCfg := ⟨keepAt [(0, [0, 1]), (1, [0, 1, 11]), (2, [4]), (3, [0, 1]), (4, [0, 1, 5]), (5, [0, 1, 5, 17, 18, 19]), (6, [0, 1, 5, 17, 18, 19, 20]), (7, [0, 1, 5, 7, 17, 18, 19]), (8, [0, 1, 5, 8, 9, 17, 18, 19]), (9, [0, 1, 5, 8, 17, 18, 19, 45]), (10, [0, 1, 5, 17, 18, 19]), (11, [0, 1, 5, 17, 18, 19]), (12, [4])], loopAt [(6, [0, 1, 5, 17, 18, 19], [])], []⟩
noncomputable def C_dmost (fu : Nat) (l : WL) (lo len : Nat) (sp la t : Int) : Cfg := Cfg.of tis F53 fu (List.length ([.var [.slice 1 1 lo len none, .int .i64 sp, .int .i64 la], .rows (.box 115 (.pair (.int .i64) (.int .i64))) l false] : List Blk)) Tryz.f53.ntmps
noncomputable def S.dmost_b0 : Code := codeAt (bodyOf Tryz.f53) [1, 1, 1, 1, 0, 1, 0, 0]
noncomputable def S.dmost_s0 (l : WL) (lo len : Nat) (sp la t : Int) (y0 : Int) (y1 : Int) : St := ⟨[(0, (.ptr 0 (0) 0)), (1, (.int .i64 (if 0 > t then 0 else t))), (5, (.int .i64 (y0))), (17, (.slice 1 1 (lo) (len) none)), (18, (.int .i64 (((len : Nat) : Int)))), (19, (.int .i64 (y1)))], [(.var [(.slice 1 1 (lo) (len) none), (.int .i64 (sp)), (.int .i64 (la))]), (.rows (Cd.box 115 (Cd.pair (Cd.int .i64) (Cd.int .i64))) (l) false)]⟩
noncomputable def S.dmost_x0_0 (l : WL) (lo len : Nat) (sp la t : Int) (z0 : Int) (z1 : Int) (z2 : Bool) : St := ⟨[(0, (.ptr 0 (0) 0)), (1, (.int .i64 (if 0 > t then 0 else t))), (5, (.int .i64 (z0))), (17, (.slice 1 1 (lo) (len) none)), (18, (.int .i64 (((len : Nat) : Int)))), (19, (.int .i64 (z1))), (20, (.bool (z2)))], [(.var [(.slice 1 1 (lo) (len) none), (.int .i64 (sp)), (.int .i64 (la))]), (.rows (Cd.box 115 (Cd.pair (Cd.int .i64) (Cd.int .i64))) (l) false)]⟩
noncomputable def S.dmost_g0 {R : Type} (l : WL) (lo len : Nat) (sp la t : Int) (K : Ex → St → Option R) : ((Int × Int × Bool)) → Option R := (fun z : Int × Int × Bool => K (Ex.exit 0) (S.dmost_x0_0 l lo len sp la t (z.1) (z.2.1) (z.2.2)))
noncomputable def S.dmost_gk {R : Type} (l : WL) (lo len : Nat) (sp la t : Int) (k : AVal → List Blk → Option R) : (Int) → Option R := (fun v : Int => k (.int .i64 v) [.var [.slice 1 1 lo len none, .int .i64 sp, .int .i64 la], .rows (.box 115 (.pair (.int .i64) (.int .i64))) l false])
theorem S.dmost_l0_k {R : Type} (fu : Nat) (l : WL) (lo len : Nat) (sp la t : Int) (n : Nat) (K : Ex → St → Option R) (y0 : Int) (y1 : Int) : loopRun (C_dmost fu l lo len sp la t) G51 S.dmost_b0 (n + 1) (S.dmost_s0 l lo len sp la t (y0) (y1)) K =
  (bif decide (y1 < ((len : Nat) : Int)) then
   bif inB y1 len then
   (optK (l[Int.toNat y1 + lo]?) fun o4 =>
   (optC (o4) (loopRun (C_dmost fu l lo len sp la t) G51 S.dmost_b0 n (S.dmost_s0 l lo len sp la t (y0) (Go.IntKind.wrap .i64 (y1 + 1))) K) fun o5 =>
   bif decide ((if 0 > t then 0 else t) ≤ o5.1) then
   loopRun (C_dmost fu l lo len sp la t) G51 S.dmost_b0 n (S.dmost_s0 l lo len sp la t (if o5.2 > y0 then o5.2 else y0) (Go.IntKind.wrap .i64 (y1 + 1))) K
 else
   bif decide (Go.IntKind.wrap .i64 ((if 0 > t then 0 else t) - o5.1) < sp) then
   loopRun (C_dmost fu l lo len sp la t) G51 S.dmost_b0 n (S.dmost_s0 l lo len sp la t (if o5.2 > y0 then o5.2 else y0) (Go.IntKind.wrap .i64 (y1 + 1))) K
 else
   loopRun (C_dmost fu l lo len sp la t) G51 S.dmost_b0 n (S.dmost_s0 l lo len sp la t (y0) (Go.IntKind.wrap .i64 (y1 + 1))) K))
 else
   none
 else
   K (Ex.exit 0) (S.dmost_x0_0 l lo len sp la t (y0) (y1) (decide (y1 < ((len : Nat) : Int))))) := by kernel_rfl
noncomputable def S.dmost_l0 (fu : Nat) (l : WL) (lo len : Nat) (sp la t : Int) : Nat → (Int) → (Int) → Option ((Int × Int × Bool))
  | 0, _, _ => none
  | n + 1, y0, y1 =>
    bif decide (y1 < ((len : Nat) : Int)) then
   bif inB y1 len then
   (optK (l[Int.toNat y1 + lo]?) fun o4 =>
   (optC (o4) ((S.dmost_l0 fu l lo len sp la t n) (y0) (Go.IntKind.wrap .i64 (y1 + 1))) fun o5 =>
   bif decide ((if 0 > t then 0 else t) ≤ o5.1) then
   (S.dmost_l0 fu l lo len sp la t n) (if o5.2 > y0 then o5.2 else y0) (Go.IntKind.wrap .i64 (y1 + 1))
 else
   bif decide (Go.IntKind.wrap .i64 ((if 0 > t then 0 else t) - o5.1) < sp) then
   (S.dmost_l0 fu l lo len sp la t n) (if o5.2 > y0 then o5.2 else y0) (Go.IntKind.wrap .i64 (y1 + 1))
 else
   (S.dmost_l0 fu l lo len sp la t n) (y0) (Go.IntKind.wrap .i64 (y1 + 1))))
 else
   none
 else
   some (y0, y1, decide (y1 < ((len : Nat) : Int)))
theorem S.dmost_l0_v {R : Type} (fu : Nat) (l : WL) (lo len : Nat) (sp la t : Int) (K : Ex → St → Option R) : ∀ (n : Nat) (y0 : Int) (y1 : Int), loopRun (C_dmost fu l lo len sp la t) G51 S.dmost_b0 n (S.dmost_s0 l lo len sp la t (y0) (y1)) K = oK (β := (Int × Int × Bool)) (S.dmost_g0 l lo len sp la t K) (S.dmost_l0 fu l lo len sp la t n y0 y1)
  | 0, _, _ => rfl
  | n + 1, y0, y1 => (S.dmost_l0_k fu l lo len sp la t n K y0 y1).trans (bif_lift (f := (oK (S.dmost_g0 l lo len sp la t K))) (bif_lift (f := (oK (S.dmost_g0 l lo len sp la t K))) (opt_lift fun o4 => (optC_lift (f := (oK (S.dmost_g0 l lo len sp la t K))) (S.dmost_l0_v fu l lo len sp la t K n (y0) (Go.IntKind.wrap .i64 (y1 + 1))) fun o5 => (bif_lift (f := (oK (S.dmost_g0 l lo len sp la t K))) (S.dmost_l0_v fu l lo len sp la t K n (if o5.2 > y0 then o5.2 else y0) (Go.IntKind.wrap .i64 (y1 + 1))) (bif_lift (f := (oK (S.dmost_g0 l lo len sp la t K))) (S.dmost_l0_v fu l lo len sp la t K n (if o5.2 > y0 then o5.2 else y0) (Go.IntKind.wrap .i64 (y1 + 1))) (S.dmost_l0_v fu l lo len sp la t K n (y0) (Go.IntKind.wrap .i64 (y1 + 1))))))) rfl) rfl)
noncomputable def S.dmost_a0_0 (fu : Nat) (l : WL) (lo len : Nat) (sp la t : Int) (z0 : Int) (z1 : Int) (z2 : Bool) : Option (Int) :=
  some (z0)
theorem S.dmost_a0_0_v {R : Type} (fu : Nat) (l : WL) (lo len : Nat) (sp la t : Int) (z0 : Int) (z1 : Int) (z2 : Bool) (k : AVal → List Blk → Option R) : contOf (C_dmost fu l lo len sp la t) G51 (bodyOf Tryz.f53) [1, 1, 1, 1, 0, 1, 0] (retK tis F53 Tryz.f53 (List.length ([.var [.slice 1 1 lo len none, .int .i64 sp, .int .i64 la], .rows (.box 115 (.pair (.int .i64) (.int .i64))) l false] : List Blk)) k) (Ex.exit 0) (S.dmost_x0_0 l lo len sp la t (z0) (z1) (z2)) = oK (S.dmost_gk l lo len sp la t k) (S.dmost_a0_0 fu l lo len sp la t z0 z1 z2) :=
  Eq.trans (b := ((S.dmost_gk l lo len sp la t k) (z0))) (by kernel_rfl) rfl
noncomputable def S.dmost_L {R : Type} (fu : Nat) (l : WL) (lo len : Nat) (sp la t : Int) (k : AVal → List Blk → Option R) : Option R := fnEval tis F53 fu G51 Tryz.f53 [.ptr 0 0 0, .int .i64 t] [.var [.slice 1 1 lo len none, .int .i64 sp, .int .i64 la], .rows (.box 115 (.pair (.int .i64) (.int .i64))) l false] k
noncomputable def S.dmost (fu : Nat) (l : WL) (lo len : Nat) (sp la t : Int) : Option (Int) :=
  optK (S.dmost_l0 fu l lo len sp la t fu (0) (0)) (fun z : Int × Int × Bool => S.dmost_a0_0 fu l lo len sp la t (z.1) (z.2.1) (z.2.2))
theorem S.dmost_v {R : Type} (fu : Nat) (l : WL) (lo len : Nat) (sp la t : Int) (k : AVal → List Blk → Option R) : S.dmost_L fu l lo len sp la t k = oK (fun v : Int => k (.int .i64 v) [.var [.slice 1 1 lo len none, .int .i64 sp, .int .i64 la], .rows (.box 115 (.pair (.int .i64) (.int .i64))) l false]) (S.dmost fu l lo len sp la t) :=
  Eq.trans (b := (loopRun (C_dmost fu l lo len sp la t) G51 S.dmost_b0 fu (S.dmost_s0 l lo len sp la t (0) (0)) (contOf (C_dmost fu l lo len sp la t) G51 (bodyOf Tryz.f53) [1, 1, 1, 1, 0, 1, 0] (retK tis F53 Tryz.f53 (List.length ([.var [.slice 1 1 lo len none, .int .i64 sp, .int .i64 la], .rows (.box 115 (.pair (.int .i64) (.int .i64))) l false] : List Blk)) k)))) (by kernel_rfl) (arr_lift (S.dmost_l0_v fu l lo len sp la t (contOf (C_dmost fu l lo len sp la t) G51 (bodyOf Tryz.f53) [1, 1, 1, 1, 0, 1, 0] (retK tis F53 Tryz.f53 (List.length ([.var [.slice 1 1 lo len none, .int .i64 sp, .int .i64 la], .rows (.box 115 (.pair (.int .i64) (.int .i64))) l false] : List Blk)) k)) fu (0) (0)) ((fun z => S.dmost_a0_0_v fu l lo len sp la t (z.1) (z.2.1) (z.2.2) k)))
noncomputable def H53 : Hnd := fun R args σ k => match args, σ with
  | [.ptr 0 0 0, .int .i64 t], [.var [.slice 1 1 lo len none, .int .i64 sp, .int .i64 la], .rows (.box 115 (.pair (.int .i64) (.int .i64))) l false] => oK (fun v : Int => k (.int .i64 v) []) (S.dmost 100000 l lo len sp la t)
  | _, _ => none
theorem H53_ok : HndOk Tryz.prog 53 H53 := hnd_ok_pure tis tisOk mixOk G51_ok F53 Tryz.func53 rfl (by
  intro R args σ k r h
  unfold H53 at h
  split at h
  · rename_i t lo len sp la l; exact ⟨100000, (S.dmost_v 100000 l lo len sp la t _).trans ((congrArg (fun g9 => oK g9 (S.dmost 100000 l lo len sp la t)) (funext fun v => if_pos rfl)).trans h)⟩
  · cases h)
noncomputable def G53 : Env := Env.add 53 H53 G51
theorem G53_ok : EnvOk Tryz.prog G53 := envAdd_ok H53_ok G51_ok

/-! (*delay.Delay).Span -/
def F43 : FCfg := ⟨keepAt [(0, [0, 1]), (1, [0, 1, 5]), (2, [4]), (3, [0, 1, 8]), (4, [4]), (5, []), (6, [4])], loopAt [], []⟩
noncomputable def S.dspan_L {R : Type} (l : WL) (lo len : Nat) (sp la x : Int) (k : AVal → List Blk → Option R) : Option R := fnEval tis F43 0 G53 Tryz.f43 [.ptr 0 0 0, .int .i64 x] [.var [.slice 1 1 lo len none, .int .i64 sp, .int .i64 la], .rows (.box 115 (.pair (.int .i64) (.int .i64))) l false] k
noncomputable def S.dspan_gk {R : Type} (l : WL) (lo len : Nat) (sp la x : Int) (k : AVal → List Blk → Option R) : (Int × Nat × Nat × Int × Int × WL) → Option R := (fun v : Int × Nat × Nat × Int × Int × WL => k (.int .i64 v.1) [(.var [(.slice 1 1 v.2.1 v.2.2.1 none), (.int .i64 v.2.2.2.1), (.int .i64 v.2.2.2.2.1)]), (.rows (Cd.box 115 (Cd.pair (Cd.int .i64) (Cd.int .i64))) v.2.2.2.2.2 false)])
noncomputable def S.dspan (l : WL) (lo len : Nat) (sp la x : Int) : Int × Nat × Nat × Int × Int × WL :=
  bif decide (x < 0) then
   (1, lo, len, sp, la, l)
 else
   bif decide (600 < x) then
   (1, lo, len, sp, la, l)
 else
   (0, lo, len, x, la, l)
theorem S.dspan_v {R : Type} (l : WL) (lo len : Nat) (sp la x : Int) (k : AVal → List Blk → Option R) : S.dspan_L l lo len sp la x k = (S.dspan_gk l lo len sp la x k) (S.dspan l lo len sp la x) :=
  Eq.trans (b := (bif decide (x < 0) then
   (S.dspan_gk l lo len sp la x k) (1, lo, len, sp, la, l)
 else
   bif decide (600 < x) then
   (S.dspan_gk l lo len sp la x k) (1, lo, len, sp, la, l)
 else
   (S.dspan_gk l lo len sp la x k) (0, lo, len, x, la, l))) (by kernel_rfl) (bif_lift (f := (S.dspan_gk l lo len sp la x k)) rfl (bif_lift (f := (S.dspan_gk l lo len sp la x k)) rfl rfl))
noncomputable def H43 : Hnd := fun R args σ k => match args, σ with
  | [.ptr 0 0 0, .int .i64 x], [.var [.slice 1 1 lo len none, .int .i64 sp, .int .i64 la], .rows (.box 115 (.pair (.int .i64) (.int .i64))) l false] => k (.int .i64 (S.dspan l lo len sp la x).1) [(.var [(.slice 1 1 (S.dspan l lo len sp la x).2.1 (S.dspan l lo len sp la x).2.2.1 none), (.int .i64 (S.dspan l lo len sp la x).2.2.2.1), (.int .i64 (S.dspan l lo len sp la x).2.2.2.2.1)]), (.rows (Cd.box 115 (Cd.pair (Cd.int .i64) (Cd.int .i64))) (S.dspan l lo len sp la x).2.2.2.2.2 false)]
  | _, _ => none
theorem H43_ok : HndOk Tryz.prog 43 H43 := hnd_ok tis tisOk mixOk G53_ok F43 Tryz.func43 rfl (by
  intro R args σ k r h
  unfold H43 at h
  split at h
  · rename_i x lo len sp la l; exact ⟨0, (S.dspan_v l lo len sp la x _).trans h⟩
  · cases h)
noncomputable def G43 : Env := Env.add 43 H43 G53
theorem G43_ok : EnvOk Tryz.prog G43 := envAdd_ok H43_ok G53_ok
end Go.Proofs.YtdgipcjigbagfaaGreat.AB
