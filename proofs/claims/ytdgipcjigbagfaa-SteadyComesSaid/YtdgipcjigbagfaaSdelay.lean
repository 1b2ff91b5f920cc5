/- The functions of layer 15, as plain functions. -/
import Derived.Test.YtdgipcjigbagfaaSring2
namespace Go.Proofs.Ytdgipcjigbagfaa.AB
set_option linter.unusedVariables false

/-! delay.New -/
def F35 : FCfg := ⟨keepAt [(0, [0]), (1, [0, 8]), (2, [2]), (3, [2])], loopAt [], []⟩
theorem S.dnew_k {R : Type} (sp : Int) (k : AVal → List Blk → Option R) : fnEval tis F35 0 G77 Try.f35 [.int .i64 sp] [] k =
  (bif decide (sp < 0) then
   k (.nilp) ([])
 else
   bif decide (600 < sp) then
   k (.nilp) ([])
 else
   k (.ptr 0 0 0) ([.var [.nils, .int .i64 sp, .int .i64 0]])) := by kernel_rfl
noncomputable def S.dnew (sp : Int) : (Unit) ⊕ (Int) :=
  bif decide (sp < 0) then
   (.inl ())
 else
   bif decide (600 < sp) then
   (.inl ())
 else
   (.inr (sp))
noncomputable def S.dnew_gk {R : Type} (sp : Int) (k : AVal → List Blk → Option R) : ((Unit) ⊕ (Int)) → Option R := (Sum.elim (fun v : Unit => k .nilp []) (fun v : Int => k (.ptr 0 (0) 0) [(.var [.nils, (.int .i64 v), (.int .i64 (0))])]))
theorem S.dnew_v {R : Type} (sp : Int) (k : AVal → List Blk → Option R) : fnEval tis F35 0 G77 Try.f35 [.int .i64 sp] [] k = (Sum.elim (fun v : Unit => k .nilp []) (fun v : Int => k (.ptr 0 (0) 0) [(.var [.nils, (.int .i64 v), (.int .i64 (0))])])) (S.dnew sp) :=
  (S.dnew_k sp k).trans (bif_lift (f := (S.dnew_gk sp k)) rfl (bif_lift (f := (S.dnew_gk sp k)) rfl rfl))
noncomputable def H35 : Hnd := fun R args σ k => match args, σ with
  | [.int .i64 sp], [] => (Sum.elim (fun v : Unit => k .nilp []) (fun v : Int => k (.ptr 0 (0) 0) [(.var [.nils, (.int .i64 v), (.int .i64 (0))])])) (S.dnew sp)
  | _, _ => none
theorem H35_ok : HndOk Try.prog 35 H35 := hnd_ok tis tisOk mixOk G77_ok F35 Try.func35 rfl (by
  intro R args σ k r h
  unfold H35 at h
  split at h
  · rename_i sp; exact ⟨0, (S.dnew_v sp _).trans h⟩
  · cases h)
noncomputable def G35 : Env := Env.add 35 H35 G77
theorem G35_ok : EnvOk Try.prog G35 := envAdd_ok H35_ok G77_ok

/-! (*delay.Delay).Put -/
def F45 : FCfg := ⟨keepAt [(0, [0, 2, 4]), (1, [0, 2, 4, 7]), (2, [6]), (3, [0, 2, 4, 10]), (4, [6]), (5, [0, 2, 4]), (6, [0, 2, 4]), (7, []), (8, [6])], loopAt [], [⟨1, false, 0, [], 0, (.box 106 (.pair (.int .i64) (.int .i64))), none⟩, ⟨2, false, 0, [0], 0, .bool, none⟩]⟩
theorem S.dput_k {R : Type} (l : WL) (lo len : Nat) (sp la t w : Int) (k : AVal → List Blk → Option R) : fnEval tis F45 0 G35 Try.f45 [.ptr 0 0 0, .int .i64 t, .int .i64 w] [.var [.slice 1 1 lo len none, .int .i64 sp, .int .i64 la], .rows (.box 106 (.pair (.int .i64) (.int .i64))) l false] k =
  (bif decide (t < la) then
   k (.int .i64 1) ([.var [.slice 1 2 lo len Option.none, .int .i64 sp, .int .i64 la], .dead, .rows (Cd.box 106 (Cd.pair (Cd.int .i64) (Cd.int .i64))) l false])
 else
   bif decide (1099511627776 < t) then
   k (.int .i64 1) ([.var [.slice 1 2 lo len Option.none, .int .i64 sp, .int .i64 la], .dead, .rows (Cd.box 106 (Cd.pair (Cd.int .i64) (Cd.int .i64))) l false])
 else
   bif decide (w < 0) then
   k (.int .i64 1) ([.var [.slice 1 2 lo len Option.none, .int .i64 sp, .int .i64 la], .dead, .rows (Cd.box 106 (Cd.pair (Cd.int .i64) (Cd.int .i64))) l false])
 else
   bif decide (1000000 < w) then
   k (.int .i64 1) ([.var [.slice 1 2 lo len Option.none, .int .i64 sp, .int .i64 la], .dead, .rows (Cd.box 106 (Cd.pair (Cd.int .i64) (Cd.int .i64))) l false])
 else
   (optK (S.ddel 100000 l lo len t) fun o6 =>
   bif Nat.beq 1 1 && Nat.blt 0 16 && Nat.beq 1 1 && Nat.beq 1 1 && Nat.beq 1 1 && Nat.blt 0 1 && !Nat.beq 1 3 && Nat.ble ((o6.2.1 + 1) * 16) 35184372088832 then
   k (.int .i64 0) ([.var [.slice 1 2 0 (List.length (cutL o6.2.2.1 o6.1 o6.2.1 ++ cutL [Option.some (o6.2.2.2, w)] 0 1)) Option.none, .int .i64 sp, .int .i64 t], .dead, .rows (Cd.box 106 (Cd.pair (Cd.int .i64) (Cd.int .i64))) (cutL o6.2.2.1 o6.1 o6.2.1 ++ cutL [Option.some (o6.2.2.2, w)] 0 1) false])
 else
   none)) := by kernel_rfl
noncomputable def S.dput (l : WL) (lo len : Nat) (sp la t w : Int) : Option (Int × Nat × Nat × Int × Int × WL) :=
  bif decide (t < la) then
   some (1, lo, len, sp, la, l)
 else
   bif decide (1099511627776 < t) then
   some (1, lo, len, sp, la, l)
 else
   bif decide (w < 0) then
   some (1, lo, len, sp, la, l)
 else
   bif decide (1000000 < w) then
   some (1, lo, len, sp, la, l)
 else
   (optK (S.ddel 100000 l lo len t) fun o6 =>
   bif Nat.beq 1 1 && Nat.blt 0 16 && Nat.beq 1 1 && Nat.beq 1 1 && Nat.beq 1 1 && Nat.blt 0 1 && !Nat.beq 1 3 && Nat.ble ((o6.2.1 + 1) * 16) 35184372088832 then
   some (0, 0, List.length (cutL o6.2.2.1 o6.1 o6.2.1 ++ cutL [Option.some (o6.2.2.2, w)] 0 1), sp, t, cutL o6.2.2.1 o6.1 o6.2.1 ++ cutL [Option.some (o6.2.2.2, w)] 0 1)
 else
   none)
noncomputable def S.dput_gk {R : Type} (l : WL) (lo len : Nat) (sp la t w : Int) (k : AVal → List Blk → Option R) : (Int × Nat × Nat × Int × Int × WL) → Option R := (fun v : Int × Nat × Nat × Int × Int × WL => k (.int .i64 v.1) [(.var [(.slice 1 2 v.2.1 v.2.2.1 none), (.int .i64 v.2.2.2.1), (.int .i64 v.2.2.2.2.1)]), .dead, (.rows (Cd.box 106 (Cd.pair (Cd.int .i64) (Cd.int .i64))) v.2.2.2.2.2 false)])
theorem S.dput_v {R : Type} (l : WL) (lo len : Nat) (sp la t w : Int) (k : AVal → List Blk → Option R) : fnEval tis F45 0 G35 Try.f45 [.ptr 0 0 0, .int .i64 t, .int .i64 w] [.var [.slice 1 1 lo len none, .int .i64 sp, .int .i64 la], .rows (.box 106 (.pair (.int .i64) (.int .i64))) l false] k = oK (fun v : Int × Nat × Nat × Int × Int × WL => k (.int .i64 v.1) [(.var [(.slice 1 2 v.2.1 v.2.2.1 none), (.int .i64 v.2.2.2.1), (.int .i64 v.2.2.2.2.1)]), .dead, (.rows (Cd.box 106 (Cd.pair (Cd.int .i64) (Cd.int .i64))) v.2.2.2.2.2 false)]) (S.dput l lo len sp la t w) :=
  (S.dput_k l lo len sp la t w k).trans (bif_lift (f := (oK (S.dput_gk l lo len sp la t w k))) rfl (bif_lift (f := (oK (S.dput_gk l lo len sp la t w k))) rfl (bif_lift (f := (oK (S.dput_gk l lo len sp la t w k))) rfl (bif_lift (f := (oK (S.dput_gk l lo len sp la t w k))) rfl (opt_lift fun o6 => (bif_lift (f := (oK (S.dput_gk l lo len sp la t w k))) rfl rfl))))))
theorem S.dput1_k {R : Type} (sp la t w : Int) (k : AVal → List Blk → Option R) : fnEval tis F45 0 G35 Try.f45 [.ptr 0 0 0, .int .i64 t, .int .i64 w] [.var [.nils, .int .i64 sp, .int .i64 la]] k =
  (bif decide (t < la) then
   k (.int .i64 1) ([.var [.slice 1 1 0 0 Option.none, .int .i64 sp, .int .i64 la], .rows (Cd.box 106 (Cd.pair (Cd.int .i64) (Cd.int .i64))) [] false])
 else
   bif decide (1099511627776 < t) then
   k (.int .i64 1) ([.var [.slice 1 1 0 0 Option.none, .int .i64 sp, .int .i64 la], .rows (Cd.box 106 (Cd.pair (Cd.int .i64) (Cd.int .i64))) [] false])
 else
   bif decide (w < 0) then
   k (.int .i64 1) ([.var [.slice 1 1 0 0 Option.none, .int .i64 sp, .int .i64 la], .rows (Cd.box 106 (Cd.pair (Cd.int .i64) (Cd.int .i64))) [] false])
 else
   bif decide (1000000 < w) then
   k (.int .i64 1) ([.var [.slice 1 1 0 0 Option.none, .int .i64 sp, .int .i64 la], .rows (Cd.box 106 (Cd.pair (Cd.int .i64) (Cd.int .i64))) [] false])
 else
   k (.int .i64 0) ([.var [.slice 1 1 0 1 Option.none, .int .i64 sp, .int .i64 t], .rows (Cd.box 106 (Cd.pair (Cd.int .i64) (Cd.int .i64))) ([] ++ cutL [Option.some (t, w)] 0 1) false])) := by kernel_rfl
noncomputable def S.dput1 (sp la t w : Int) : Int × Nat × Int × Int × List (Option (Int × Int)) :=
  bif decide (t < la) then
   (1, 0, sp, la, [])
 else
   bif decide (1099511627776 < t) then
   (1, 0, sp, la, [])
 else
   bif decide (w < 0) then
   (1, 0, sp, la, [])
 else
   bif decide (1000000 < w) then
   (1, 0, sp, la, [])
 else
   (0, 1, sp, t, [] ++ cutL [Option.some (t, w)] 0 1)
noncomputable def S.dput1_gk {R : Type} (sp la t w : Int) (k : AVal → List Blk → Option R) : (Int × Nat × Int × Int × List (Option (Int × Int))) → Option R := (fun v : Int × Nat × Int × Int × List (Option (Int × Int)) => k (.int .i64 v.1) [(.var [(.slice 1 1 (0) v.2.1 none), (.int .i64 v.2.2.1), (.int .i64 v.2.2.2.1)]), (.rows (Cd.box 106 (Cd.pair (Cd.int .i64) (Cd.int .i64))) v.2.2.2.2 false)])
theorem S.dput1_v {R : Type} (sp la t w : Int) (k : AVal → List Blk → Option R) : fnEval tis F45 0 G35 Try.f45 [.ptr 0 0 0, .int .i64 t, .int .i64 w] [.var [.nils, .int .i64 sp, .int .i64 la]] k = k (.int .i64 (S.dput1 sp la t w).1) [(.var [(.slice 1 1 (0) (S.dput1 sp la t w).2.1 none), (.int .i64 (S.dput1 sp la t w).2.2.1), (.int .i64 (S.dput1 sp la t w).2.2.2.1)]), (.rows (Cd.box 106 (Cd.pair (Cd.int .i64) (Cd.int .i64))) (S.dput1 sp la t w).2.2.2.2 false)] :=
  (S.dput1_k sp la t w k).trans (bif_lift (f := (S.dput1_gk sp la t w k)) rfl (bif_lift (f := (S.dput1_gk sp la t w k)) rfl (bif_lift (f := (S.dput1_gk sp la t w k)) rfl (bif_lift (f := (S.dput1_gk sp la t w k)) rfl rfl))))
theorem S.dput2_k {R : Type} (t w : Int) (k : AVal → List Blk → Option R) : fnEval tis F45 0 G35 Try.f45 [.nilp, .int .i64 t, .int .i64 w] [] k =
  (k (.int .i64 8) ([])) := by kernel_rfl
noncomputable def S.dput2 (t w : Int) : Int :=
  (8)
theorem S.dput2_v {R : Type} (t w : Int) (k : AVal → List Blk → Option R) : fnEval tis F45 0 G35 Try.f45 [.nilp, .int .i64 t, .int .i64 w] [] k = k (.int .i64 (S.dput2 t w)) [] :=
  (S.dput2_k t w k).trans rfl
noncomputable def H45 : Hnd := fun R args σ k => match args, σ with
  | [.ptr 0 0 0, .int .i64 t, .int .i64 w], [.var [.slice 1 1 lo len none, .int .i64 sp, .int .i64 la], .rows (.box 106 (.pair (.int .i64) (.int .i64))) l false] => oK (fun v : Int × Nat × Nat × Int × Int × WL => k (.int .i64 v.1) [(.var [(.slice 1 2 v.2.1 v.2.2.1 none), (.int .i64 v.2.2.2.1), (.int .i64 v.2.2.2.2.1)]), .dead, (.rows (Cd.box 106 (Cd.pair (Cd.int .i64) (Cd.int .i64))) v.2.2.2.2.2 false)]) (S.dput l lo len sp la t w)
  | [.ptr 0 0 0, .int .i64 t, .int .i64 w], [.var [.nils, .int .i64 sp, .int .i64 la]] => k (.int .i64 (S.dput1 sp la t w).1) [(.var [(.slice 1 1 (0) (S.dput1 sp la t w).2.1 none), (.int .i64 (S.dput1 sp la t w).2.2.1), (.int .i64 (S.dput1 sp la t w).2.2.2.1)]), (.rows (Cd.box 106 (Cd.pair (Cd.int .i64) (Cd.int .i64))) (S.dput1 sp la t w).2.2.2.2 false)]
  | [.nilp, .int .i64 t, .int .i64 w], [] => k (.int .i64 (S.dput2 t w)) []
  | _, _ => none
theorem H45_ok : HndOk Try.prog 45 H45 := hnd_ok tis tisOk mixOk G35_ok F45 Try.func45 rfl (by
  intro R args σ k r h
  unfold H45 at h
  split at h
  · rename_i t w lo len sp la l; exact ⟨0, (S.dput_v l lo len sp la t w _).trans h⟩
  · rename_i t w sp la; exact ⟨0, (S.dput1_v sp la t w _).trans h⟩
  · rename_i t w; exact ⟨0, (S.dput2_v t w _).trans h⟩
  · cases h)
noncomputable def G45 : Env := Env.add 45 H45 G35
theorem G45_ok : EnvOk Try.prog G45 := envAdd_ok H45_ok G35_ok

/-! (*delay.Delay).Most -/
def F47 : FCfg := ⟨keepAt [(0, [0, 1]), (1, [0, 1, 11]), (2, [4]), (3, [0, 1]), (4, [0, 1, 5]), (5, [0, 1, 5, 17, 18, 19]), (6, [0, 1, 5, 17, 18, 19, 20]), (7, [0, 1, 5, 7, 17, 18, 19]), (8, [0, 1, 5, 8, 9, 17, 18, 19]), (9, [0, 1, 5, 8, 17, 18, 19, 45]), (10, [0, 1, 5, 17, 18, 19]), (11, [0, 1, 5, 17, 18, 19]), (12, [4])], loopAt [(6, [0, 1, 5, 17, 18, 19], [])], []⟩
noncomputable def C_dmost (fu : Nat) (l : WL) (lo len : Nat) (sp la t : Int) : Cfg := Cfg.of tis F47 fu (List.length ([.var [.slice 1 1 lo len none, .int .i64 sp, .int .i64 la], .rows (.box 106 (.pair (.int .i64) (.int .i64))) l false] : List Blk)) Try.f47.ntmps
noncomputable def S.dmost_b0 : Code := codeAt (bodyOf Try.f47) [1, 1, 1, 1, 0, 1, 0, 0]
noncomputable def S.dmost_s0 (l : WL) (lo len : Nat) (sp la t : Int) (y0 : Int) (y1 : Int) : St := ⟨[(0, (.ptr 0 (0) 0)), (1, (.int .i64 (if 0 > t then 0 else t))), (5, (.int .i64 (y0))), (17, (.slice 1 1 (lo) (len) none)), (18, (.int .i64 (((len : Nat) : Int)))), (19, (.int .i64 (y1)))], [(.var [(.slice 1 1 (lo) (len) none), (.int .i64 (sp)), (.int .i64 (la))]), (.rows (Cd.box 106 (Cd.pair (Cd.int .i64) (Cd.int .i64))) (l) false)]⟩
noncomputable def S.dmost_x0_0 (l : WL) (lo len : Nat) (sp la t : Int) (z0 : Int) (z1 : Int) (z2 : Bool) : St := ⟨[(0, (.ptr 0 (0) 0)), (1, (.int .i64 (if 0 > t then 0 else t))), (5, (.int .i64 (z0))), (17, (.slice 1 1 (lo) (len) none)), (18, (.int .i64 (((len : Nat) : Int)))), (19, (.int .i64 (z1))), (20, (.bool (z2)))], [(.var [(.slice 1 1 (lo) (len) none), (.int .i64 (sp)), (.int .i64 (la))]), (.rows (Cd.box 106 (Cd.pair (Cd.int .i64) (Cd.int .i64))) (l) false)]⟩
noncomputable def S.dmost_g0 {R : Type} (l : WL) (lo len : Nat) (sp la t : Int) (K : Ex → St → Option R) : ((Int × Int × Bool)) → Option R := (fun z : Int × Int × Bool => K (Ex.exit 0) (S.dmost_x0_0 l lo len sp la t (z.1) (z.2.1) (z.2.2)))
noncomputable def S.dmost_gk {R : Type} (l : WL) (lo len : Nat) (sp la t : Int) (k : AVal → List Blk → Option R) : (Int) → Option R := (fun v : Int => k (.int .i64 v) [.var [.slice 1 1 lo len none, .int .i64 sp, .int .i64 la], .rows (.box 106 (.pair (.int .i64) (.int .i64))) l false])
theorem S.dmost_l0_k {R : Type} (fu : Nat) (l : WL) (lo len : Nat) (sp la t : Int) (n : Nat) (K : Ex → St → Option R) (y0 : Int) (y1 : Int) : loopRun (C_dmost fu l lo len sp la t) G45 S.dmost_b0 (n + 1) (S.dmost_s0 l lo len sp la t (y0) (y1)) K =
  (bif decide (y1 < ((len : Nat) : Int)) then
   bif inB y1 len then
   (optK (l[Int.toNat y1 + lo]?) fun o4 =>
   (optC (o4) (loopRun (C_dmost fu l lo len sp la t) G45 S.dmost_b0 n (S.dmost_s0 l lo len sp la t (y0) (Go.IntKind.wrap .i64 (y1 + 1))) K) fun o5 =>
   bif decide ((if 0 > t then 0 else t) ≤ o5.1) then
   loopRun (C_dmost fu l lo len sp la t) G45 S.dmost_b0 n (S.dmost_s0 l lo len sp la t (if o5.2 > y0 then o5.2 else y0) (Go.IntKind.wrap .i64 (y1 + 1))) K
 else
   bif decide (Go.IntKind.wrap .i64 ((if 0 > t then 0 else t) - o5.1) < sp) then
   loopRun (C_dmost fu l lo len sp la t) G45 S.dmost_b0 n (S.dmost_s0 l lo len sp la t (if o5.2 > y0 then o5.2 else y0) (Go.IntKind.wrap .i64 (y1 + 1))) K
 else
   loopRun (C_dmost fu l lo len sp la t) G45 S.dmost_b0 n (S.dmost_s0 l lo len sp la t (y0) (Go.IntKind.wrap .i64 (y1 + 1))) K))
 else
   none
 else
   K (Ex.exit 0) (S.dmost_x0_0 l lo len sp la t (y0) (y1) (decide (y1 < ((len : Nat) : Int))))) := by kernel_rfl
noncomputable def S.dmost_l0 (fu : Nat) (l : WL) (lo len : Nat) (sp la t : Int) : Nat → (Int) → (Int) → Option ((Int × Int × Bool))
  | 0, _, _ => none
  | n + 1, y0, y1 =>
    bif decide (y1 < ((len : Nat) : Int)) then
   bif inB y1 len then
   (optK (l[Int.toNat y1 + lo]?) fun o4 =>
   (optC (o4) ((S.dmost_l0 fu l lo len sp la t n) (y0) (Go.IntKind.wrap .i64 (y1 + 1))) fun o5 =>
   bif decide ((if 0 > t then 0 else t) ≤ o5.1) then
   (S.dmost_l0 fu l lo len sp la t n) (if o5.2 > y0 then o5.2 else y0) (Go.IntKind.wrap .i64 (y1 + 1))
 else
   bif decide (Go.IntKind.wrap .i64 ((if 0 > t then 0 else t) - o5.1) < sp) then
   (S.dmost_l0 fu l lo len sp la t n) (if o5.2 > y0 then o5.2 else y0) (Go.IntKind.wrap .i64 (y1 + 1))
 else
   (S.dmost_l0 fu l lo len sp la t n) (y0) (Go.IntKind.wrap .i64 (y1 + 1))))
 else
   none
 else
   some (y0, y1, decide (y1 < ((len : Nat) : Int)))
theorem S.dmost_l0_v {R : Type} (fu : Nat) (l : WL) (lo len : Nat) (sp la t : Int) (K : Ex → St → Option R) : ∀ (n : Nat) (y0 : Int) (y1 : Int), loopRun (C_dmost fu l lo len sp la t) G45 S.dmost_b0 n (S.dmost_s0 l lo len sp la t (y0) (y1)) K = oK (β := (Int × Int × Bool)) (S.dmost_g0 l lo len sp la t K) (S.dmost_l0 fu l lo len sp la t n y0 y1)
  | 0, _, _ => rfl
  | n + 1, y0, y1 => (S.dmost_l0_k fu l lo len sp la t n K y0 y1).trans (bif_lift (f := (oK (S.dmost_g0 l lo len sp la t K))) (bif_lift (f := (oK (S.dmost_g0 l lo len sp la t K))) (opt_lift fun o4 => (optC_lift (f := (oK (S.dmost_g0 l lo len sp la t K))) (S.dmost_l0_v fu l lo len sp la t K n (y0) (Go.IntKind.wrap .i64 (y1 + 1))) fun o5 => (bif_lift (f := (oK (S.dmost_g0 l lo len sp la t K))) (S.dmost_l0_v fu l lo len sp la t K n (if o5.2 > y0 then o5.2 else y0) (Go.IntKind.wrap .i64 (y1 + 1))) (bif_lift (f := (oK (S.dmost_g0 l lo len sp la t K))) (S.dmost_l0_v fu l lo len sp la t K n (if o5.2 > y0 then o5.2 else y0) (Go.IntKind.wrap .i64 (y1 + 1))) (S.dmost_l0_v fu l lo len sp la t K n (y0) (Go.IntKind.wrap .i64 (y1 + 1))))))) rfl) rfl)
theorem S.dmost_a0_0_k {R : Type} (fu : Nat) (l : WL) (lo len : Nat) (sp la t : Int) (z0 : Int) (z1 : Int) (z2 : Bool) (k : AVal → List Blk → Option R) : contOf (C_dmost fu l lo len sp la t) G45 (bodyOf Try.f47) [1, 1, 1, 1, 0, 1, 0] (retK tis F47 Try.f47 (List.length ([.var [.slice 1 1 lo len none, .int .i64 sp, .int .i64 la], .rows (.box 106 (.pair (.int .i64) (.int .i64))) l false] : List Blk)) k) (Ex.exit 0) (S.dmost_x0_0 l lo len sp la t (z0) (z1) (z2)) =
  (k (.int .i64 z0) ([.var [.slice 1 1 lo len Option.none, .int .i64 sp, .int .i64 la], .rows (Cd.box 106 (Cd.pair (Cd.int .i64) (Cd.int .i64))) l false])) := by kernel_rfl
noncomputable def S.dmost_a0_0 (fu : Nat) (l : WL) (lo len : Nat) (sp la t : Int) (z0 : Int) (z1 : Int) (z2 : Bool) : Option (Int) :=
  some (z0)
theorem S.dmost_a0_0_v {R : Type} (fu : Nat) (l : WL) (lo len : Nat) (sp la t : Int) (z0 : Int) (z1 : Int) (z2 : Bool) (k : AVal → List Blk → Option R) : contOf (C_dmost fu l lo len sp la t) G45 (bodyOf Try.f47) [1, 1, 1, 1, 0, 1, 0] (retK tis F47 Try.f47 (List.length ([.var [.slice 1 1 lo len none, .int .i64 sp, .int .i64 la], .rows (.box 106 (.pair (.int .i64) (.int .i64))) l false] : List Blk)) k) (Ex.exit 0) (S.dmost_x0_0 l lo len sp la t (z0) (z1) (z2)) = oK (S.dmost_gk l lo len sp la t k) (S.dmost_a0_0 fu l lo len sp la t z0 z1 z2) :=
  (S.dmost_a0_0_k fu l lo len sp la t z0 z1 z2 k).trans rfl
theorem S.dmost_k {R : Type} (fu : Nat) (l : WL) (lo len : Nat) (sp la t : Int) (k : AVal → List Blk → Option R) : fnEval tis F47 fu G45 Try.f47 [.ptr 0 0 0, .int .i64 t] [.var [.slice 1 1 lo len none, .int .i64 sp, .int .i64 la], .rows (.box 106 (.pair (.int .i64) (.int .i64))) l false] k =
  (loopRun (C_dmost fu l lo len sp la t) G45 S.dmost_b0 fu (S.dmost_s0 l lo len sp la t (0) (0)) (contOf (C_dmost fu l lo len sp la t) G45 (bodyOf Try.f47) [1, 1, 1, 1, 0, 1, 0] (retK tis F47 Try.f47 (List.length ([.var [.slice 1 1 lo len none, .int .i64 sp, .int .i64 la], .rows (.box 106 (.pair (.int .i64) (.int .i64))) l false] : List Blk)) k))) := by kernel_rfl
noncomputable def S.dmost (fu : Nat) (l : WL) (lo len : Nat) (sp la t : Int) : Option (Int) :=
  optK (S.dmost_l0 fu l lo len sp la t fu (0) (0)) (fun z : Int × Int × Bool => S.dmost_a0_0 fu l lo len sp la t (z.1) (z.2.1) (z.2.2))
theorem S.dmost_v {R : Type} (fu : Nat) (l : WL) (lo len : Nat) (sp la t : Int) (k : AVal → List Blk → Option R) : fnEval tis F47 fu G45 Try.f47 [.ptr 0 0 0, .int .i64 t] [.var [.slice 1 1 lo len none, .int .i64 sp, .int .i64 la], .rows (.box 106 (.pair (.int .i64) (.int .i64))) l false] k = oK (fun v : Int => k (.int .i64 v) [.var [.slice 1 1 lo len none, .int .i64 sp, .int .i64 la], .rows (.box 106 (.pair (.int .i64) (.int .i64))) l false]) (S.dmost fu l lo len sp la t) :=
  (S.dmost_k fu l lo len sp la t k).trans (arr_lift (S.dmost_l0_v fu l lo len sp la t (contOf (C_dmost fu l lo len sp la t) G45 (bodyOf Try.f47) [1, 1, 1, 1, 0, 1, 0] (retK tis F47 Try.f47 (List.length ([.var [.slice 1 1 lo len none, .int .i64 sp, .int .i64 la], .rows (.box 106 (.pair (.int .i64) (.int .i64))) l false] : List Blk)) k)) fu (0) (0)) ((fun z => S.dmost_a0_0_v fu l lo len sp la t (z.1) (z.2.1) (z.2.2) k)))
noncomputable def C_dmost1 (fu : Nat) (sp la t : Int) : Cfg := Cfg.of tis F47 fu (List.length ([.var [.nils, .int .i64 sp, .int .i64 la]] : List Blk)) Try.f47.ntmps
noncomputable def S.dmost1_b0 : Code := codeAt (bodyOf Try.f47) [1, 1, 1, 1, 0, 1, 0, 0]
noncomputable def S.dmost1_s0 (sp la t : Int)  : St := ⟨[(0, (.ptr 0 (0) 0)), (1, (.int .i64 (if 0 > t then 0 else t))), (5, (.int .i64 (0))), (17, .nils), (18, (.int .i64 (0))), (19, (.int .i64 (0)))], [(.var [.nils, (.int .i64 (sp)), (.int .i64 (la))])]⟩
noncomputable def S.dmost1_x0_0 (sp la t : Int)  : St := ⟨[(0, (.ptr 0 (0) 0)), (1, (.int .i64 (if 0 > t then 0 else t))), (5, (.int .i64 (0))), (17, .nils), (18, (.int .i64 (0))), (19, (.int .i64 (0))), (20, (.bool (false)))], [(.var [.nils, (.int .i64 (sp)), (.int .i64 (la))])]⟩
noncomputable def S.dmost1_g0 {R : Type} (sp la t : Int) (K : Ex → St → Option R) : ((Unit)) → Option R := (fun z : Unit => K (Ex.exit 0) (S.dmost1_x0_0 sp la t))
noncomputable def S.dmost1_gk {R : Type} (sp la t : Int) (k : AVal → List Blk → Option R) : (Int) → Option R := (fun v : Int => k (.int .i64 v) [.var [.nils, .int .i64 sp, .int .i64 la]])
theorem S.dmost1_l0_k {R : Type} (fu : Nat) (sp la t : Int) (n : Nat) (K : Ex → St → Option R)  : loopRun (C_dmost1 fu sp la t) G45 S.dmost1_b0 (n + 1) (S.dmost1_s0 sp la t) K =
  (K (Ex.exit 0) (S.dmost1_x0_0 sp la t)) := by kernel_rfl
noncomputable def S.dmost1_l0 (fu : Nat) (sp la t : Int) : Nat → Option ((Unit))
  | 0 => none
  | n + 1 =>
    some ()
theorem S.dmost1_l0_v {R : Type} (fu : Nat) (sp la t : Int) (K : Ex → St → Option R) : ∀ (n : Nat) , loopRun (C_dmost1 fu sp la t) G45 S.dmost1_b0 n (S.dmost1_s0 sp la t) K = oK (β := (Unit)) (S.dmost1_g0 sp la t K) (S.dmost1_l0 fu sp la t n)
  | 0 => rfl
  | n + 1 => (S.dmost1_l0_k fu sp la t n K).trans rfl
theorem S.dmost1_a0_0_k {R : Type} (fu : Nat) (sp la t : Int)  (k : AVal → List Blk → Option R) : contOf (C_dmost1 fu sp la t) G45 (bodyOf Try.f47) [1, 1, 1, 1, 0, 1, 0] (retK tis F47 Try.f47 (List.length ([.var [.nils, .int .i64 sp, .int .i64 la]] : List Blk)) k) (Ex.exit 0) (S.dmost1_x0_0 sp la t) =
  (k (.int .i64 0) ([.var [.nils, .int .i64 sp, .int .i64 la]])) := by kernel_rfl
noncomputable def S.dmost1_a0_0 (fu : Nat) (sp la t : Int)  : Option (Int) :=
  some (0)
theorem S.dmost1_a0_0_v {R : Type} (fu : Nat) (sp la t : Int)  (k : AVal → List Blk → Option R) : contOf (C_dmost1 fu sp la t) G45 (bodyOf Try.f47) [1, 1, 1, 1, 0, 1, 0] (retK tis F47 Try.f47 (List.length ([.var [.nils, .int .i64 sp, .int .i64 la]] : List Blk)) k) (Ex.exit 0) (S.dmost1_x0_0 sp la t) = oK (S.dmost1_gk sp la t k) (S.dmost1_a0_0 fu sp la t) :=
  (S.dmost1_a0_0_k fu sp la t k).trans rfl
theorem S.dmost1_k {R : Type} (fu : Nat) (sp la t : Int) (k : AVal → List Blk → Option R) : fnEval tis F47 fu G45 Try.f47 [.ptr 0 0 0, .int .i64 t] [.var [.nils, .int .i64 sp, .int .i64 la]] k =
  (loopRun (C_dmost1 fu sp la t) G45 S.dmost1_b0 fu (S.dmost1_s0 sp la t) (contOf (C_dmost1 fu sp la t) G45 (bodyOf Try.f47) [1, 1, 1, 1, 0, 1, 0] (retK tis F47 Try.f47 (List.length ([.var [.nils, .int .i64 sp, .int .i64 la]] : List Blk)) k))) := by kernel_rfl
noncomputable def S.dmost1 (fu : Nat) (sp la t : Int) : Option (Int) :=
  optK (S.dmost1_l0 fu sp la t fu) (fun z : Unit => S.dmost1_a0_0 fu sp la t)
theorem S.dmost1_v {R : Type} (fu : Nat) (sp la t : Int) (k : AVal → List Blk → Option R) : fnEval tis F47 fu G45 Try.f47 [.ptr 0 0 0, .int .i64 t] [.var [.nils, .int .i64 sp, .int .i64 la]] k = oK (fun v : Int => k (.int .i64 v) [.var [.nils, .int .i64 sp, .int .i64 la]]) (S.dmost1 fu sp la t) :=
  (S.dmost1_k fu sp la t k).trans (arr_lift (S.dmost1_l0_v fu sp la t (contOf (C_dmost1 fu sp la t) G45 (bodyOf Try.f47) [1, 1, 1, 1, 0, 1, 0] (retK tis F47 Try.f47 (List.length ([.var [.nils, .int .i64 sp, .int .i64 la]] : List Blk)) k)) fu) ((fun z => S.dmost1_a0_0_v fu sp la t k)))
noncomputable def C_dmost2 (fu : Nat) (t : Int) : Cfg := Cfg.of tis F47 fu (List.length ([] : List Blk)) Try.f47.ntmps
noncomputable def S.dmost2_b0 : Code := codeAt (bodyOf Try.f47) [1, 1, 1, 1, 0, 1, 0, 0]
noncomputable def S.dmost2_gk {R : Type} (t : Int) (k : AVal → List Blk → Option R) : (Int) → Option R := (fun v : Int => k (.int .i64 v) [])
theorem S.dmost2_k {R : Type} (fu : Nat) (t : Int) (k : AVal → List Blk → Option R) : fnEval tis F47 fu G45 Try.f47 [.nilp, .int .i64 t] [] k =
  (k (.int .i64 0) ([])) := by kernel_rfl
noncomputable def S.dmost2 (fu : Nat) (t : Int) : Option (Int) :=
  some (0)
theorem S.dmost2_v {R : Type} (fu : Nat) (t : Int) (k : AVal → List Blk → Option R) : fnEval tis F47 fu G45 Try.f47 [.nilp, .int .i64 t] [] k = oK (fun v : Int => k (.int .i64 v) []) (S.dmost2 fu t) :=
  (S.dmost2_k fu t k).trans rfl
noncomputable def H47 : Hnd := fun R args σ k => match args, σ with
  | [.ptr 0 0 0, .int .i64 t], [.var [.slice 1 1 lo len none, .int .i64 sp, .int .i64 la], .rows (.box 106 (.pair (.int .i64) (.int .i64))) l false] => oK (fun v : Int => k (.int .i64 v) []) (S.dmost 100000 l lo len sp la t)
  | [.ptr 0 0 0, .int .i64 t], [.var [.nils, .int .i64 sp, .int .i64 la]] => oK (fun v : Int => k (.int .i64 v) []) (S.dmost1 100000 sp la t)
  | [.nilp, .int .i64 t], [] => oK (fun v : Int => k (.int .i64 v) []) (S.dmost2 100000 t)
  | _, _ => none
theorem H47_ok : HndOk Try.prog 47 H47 := hnd_ok_pure tis tisOk mixOk G45_ok F47 Try.func47 rfl (by
  intro R args σ k r h
  unfold H47 at h
  split at h
  · rename_i t lo len sp la l; exact ⟨100000, (S.dmost_v 100000 l lo len sp la t _).trans ((congrArg (fun g9 => oK g9 (S.dmost 100000 l lo len sp la t)) (funext fun v => if_pos rfl)).trans h)⟩
  · rename_i t sp la; exact ⟨100000, (S.dmost1_v 100000 sp la t _).trans ((congrArg (fun g9 => oK g9 (S.dmost1 100000 sp la t)) (funext fun v => if_pos rfl)).trans h)⟩
  · rename_i t; exact ⟨100000, (S.dmost2_v 100000 t _).trans ((congrArg (fun g9 => oK g9 (S.dmost2 100000 t)) (funext fun v => if_pos rfl)).trans h)⟩
  · cases h)
noncomputable def G47 : Env := Env.add 47 H47 G45
theorem G47_ok : EnvOk Try.prog G47 := envAdd_ok H47_ok G45_ok

/-! (*delay.Delay).Span -/
def F50 : FCfg := ⟨keepAt [(0, [0, 1]), (1, [0, 1, 5]), (2, [4]), (3, [0, 1, 8]), (4, [4]), (5, []), (6, [4])], loopAt [], []⟩
theorem S.dspan_k {R : Type} (l : WL) (lo len : Nat) (sp la x : Int) (k : AVal → List Blk → Option R) : fnEval tis F50 0 G47 Try.f50 [.ptr 0 0 0, .int .i64 x] [.var [.slice 1 1 lo len none, .int .i64 sp, .int .i64 la], .rows (.box 106 (.pair (.int .i64) (.int .i64))) l false] k =
  (bif decide (x < 0) then
   k (.int .i64 1) ([.var [.slice 1 1 lo len Option.none, .int .i64 sp, .int .i64 la], .rows (Cd.box 106 (Cd.pair (Cd.int .i64) (Cd.int .i64))) l false])
 else
   bif decide (600 < x) then
   k (.int .i64 1) ([.var [.slice 1 1 lo len Option.none, .int .i64 sp, .int .i64 la], .rows (Cd.box 106 (Cd.pair (Cd.int .i64) (Cd.int .i64))) l false])
 else
   k (.int .i64 0) ([.var [.slice 1 1 lo len Option.none, .int .i64 x, .int .i64 la], .rows (Cd.box 106 (Cd.pair (Cd.int .i64) (Cd.int .i64))) l false])) := by kernel_rfl
noncomputable def S.dspan (l : WL) (lo len : Nat) (sp la x : Int) : Int × Nat × Nat × Int × Int × WL :=
  bif decide (x < 0) then
   (1, lo, len, sp, la, l)
 else
   bif decide (600 < x) then
   (1, lo, len, sp, la, l)
 else
   (0, lo, len, x, la, l)
noncomputable def S.dspan_gk {R : Type} (l : WL) (lo len : Nat) (sp la x : Int) (k : AVal → List Blk → Option R) : (Int × Nat × Nat × Int × Int × WL) → Option R := (fun v : Int × Nat × Nat × Int × Int × WL => k (.int .i64 v.1) [(.var [(.slice 1 1 v.2.1 v.2.2.1 none), (.int .i64 v.2.2.2.1), (.int .i64 v.2.2.2.2.1)]), (.rows (Cd.box 106 (Cd.pair (Cd.int .i64) (Cd.int .i64))) v.2.2.2.2.2 false)])
theorem S.dspan_v {R : Type} (l : WL) (lo len : Nat) (sp la x : Int) (k : AVal → List Blk → Option R) : fnEval tis F50 0 G47 Try.f50 [.ptr 0 0 0, .int .i64 x] [.var [.slice 1 1 lo len none, .int .i64 sp, .int .i64 la], .rows (.box 106 (.pair (.int .i64) (.int .i64))) l false] k = k (.int .i64 (S.dspan l lo len sp la x).1) [(.var [(.slice 1 1 (S.dspan l lo len sp la x).2.1 (S.dspan l lo len sp la x).2.2.1 none), (.int .i64 (S.dspan l lo len sp la x).2.2.2.1), (.int .i64 (S.dspan l lo len sp la x).2.2.2.2.1)]), (.rows (Cd.box 106 (Cd.pair (Cd.int .i64) (Cd.int .i64))) (S.dspan l lo len sp la x).2.2.2.2.2 false)] :=
  (S.dspan_k l lo len sp la x k).trans (bif_lift (f := (S.dspan_gk l lo len sp la x k)) rfl (bif_lift (f := (S.dspan_gk l lo len sp la x k)) rfl rfl))
theorem S.dspan1_k {R : Type} (sp la x : Int) (k : AVal → List Blk → Option R) : fnEval tis F50 0 G47 Try.f50 [.ptr 0 0 0, .int .i64 x] [.var [.nils, .int .i64 sp, .int .i64 la]] k =
  (bif decide (x < 0) then
   k (.int .i64 1) ([.var [.nils, .int .i64 sp, .int .i64 la]])
 else
   bif decide (600 < x) then
   k (.int .i64 1) ([.var [.nils, .int .i64 sp, .int .i64 la]])
 else
   k (.int .i64 0) ([.var [.nils, .int .i64 x, .int .i64 la]])) := by kernel_rfl
noncomputable def S.dspan1 (sp la x : Int) : Int × Int × Int :=
  bif decide (x < 0) then
   (1, sp, la)
 else
   bif decide (600 < x) then
   (1, sp, la)
 else
   (0, x, la)
noncomputable def S.dspan1_gk {R : Type} (sp la x : Int) (k : AVal → List Blk → Option R) : (Int × Int × Int) → Option R := (fun v : Int × Int × Int => k (.int .i64 v.1) [(.var [.nils, (.int .i64 v.2.1), (.int .i64 v.2.2)])])
theorem S.dspan1_v {R : Type} (sp la x : Int) (k : AVal → List Blk → Option R) : fnEval tis F50 0 G47 Try.f50 [.ptr 0 0 0, .int .i64 x] [.var [.nils, .int .i64 sp, .int .i64 la]] k = k (.int .i64 (S.dspan1 sp la x).1) [(.var [.nils, (.int .i64 (S.dspan1 sp la x).2.1), (.int .i64 (S.dspan1 sp la x).2.2)])] :=
  (S.dspan1_k sp la x k).trans (bif_lift (f := (S.dspan1_gk sp la x k)) rfl (bif_lift (f := (S.dspan1_gk sp la x k)) rfl rfl))
noncomputable def H50 : Hnd := fun R args σ k => match args, σ with
  | [.ptr 0 0 0, .int .i64 x], [.var [.slice 1 1 lo len none, .int .i64 sp, .int .i64 la], .rows (.box 106 (.pair (.int .i64) (.int .i64))) l false] => k (.int .i64 (S.dspan l lo len sp la x).1) [(.var [(.slice 1 1 (S.dspan l lo len sp la x).2.1 (S.dspan l lo len sp la x).2.2.1 none), (.int .i64 (S.dspan l lo len sp la x).2.2.2.1), (.int .i64 (S.dspan l lo len sp la x).2.2.2.2.1)]), (.rows (Cd.box 106 (Cd.pair (Cd.int .i64) (Cd.int .i64))) (S.dspan l lo len sp la x).2.2.2.2.2 false)]
  | [.ptr 0 0 0, .int .i64 x], [.var [.nils, .int .i64 sp, .int .i64 la]] => k (.int .i64 (S.dspan1 sp la x).1) [(.var [.nils, (.int .i64 (S.dspan1 sp la x).2.1), (.int .i64 (S.dspan1 sp la x).2.2)])]
  | _, _ => none
theorem H50_ok : HndOk Try.prog 50 H50 := hnd_ok tis tisOk mixOk G47_ok F50 Try.func50 rfl (by
  intro R args σ k r h
  unfold H50 at h
  split at h
  · rename_i x lo len sp la l; exact ⟨0, (S.dspan_v l lo len sp la x _).trans h⟩
  · rename_i x sp la; exact ⟨0, (S.dspan1_v sp la x _).trans h⟩
  · cases h)
noncomputable def G50 : Env := Env.add 50 H50 G47
theorem G50_ok : EnvOk Try.prog G50 := envAdd_ok H50_ok G47_ok
end Go.Proofs.Ytdgipcjigbagfaa.AB
