/- The functions of layer 15, as plain functions. -/
import Derived.Test.YtfoaihjkmfhaoaaSdel
namespace Go.Proofs.Ytfoaihjkmfhaoaa.AB
set_option linter.unusedVariables false

/-! delay.New -/
def F27 : FCfg := ⟨keepAt [(0, [0]), (1, [0, 8]), (2, [2]), (3, [2])], loopAt [], []⟩
theorem S.dnew_k {R : Type} (sp : Int) (k : AVal → List Blk → Option R) : fnEval tis F27 0 G55 Try.f27 [.int .i64 sp] [] k =
  (bif decide (sp < 0) then
    k (.nilp) ([])
  else
    bif decide (600 < sp) then
      k (.nilp) ([])
    else
      k (.ptr 0 0 0) ([.var [.nils, .int .i64 sp, .int .i64 0]])) := by kernel_rfl
def S.dnew (sp : Int) : (Unit) ⊕ (Int) :=
  bif decide (sp < 0) then
    (.inl ())
  else
    bif decide (600 < sp) then
      (.inl ())
    else
      (.inr (sp))
theorem S.dnew_v {R : Type} (sp : Int) (k : AVal → List Blk → Option R) : fnEval tis F27 0 G55 Try.f27 [.int .i64 sp] [] k = (Sum.elim (fun v : Unit => k .nilp []) (fun v : Int => k (.ptr 0 0 0) [(.var [.nils, (.int .i64 v), (.int .i64 (0))])])) (S.dnew sp) :=
  (S.dnew_k sp k).trans (bif_lift (f := (Sum.elim (fun v : Unit => k .nilp []) (fun v : Int => k (.ptr 0 0 0) [(.var [.nils, (.int .i64 v), (.int .i64 (0))])]))) rfl (bif_lift (f := (Sum.elim (fun v : Unit => k .nilp []) (fun v : Int => k (.ptr 0 0 0) [(.var [.nils, (.int .i64 v), (.int .i64 (0))])]))) rfl rfl))
def H27 : Hnd := fun R args σ k => match args, σ with
  | [.int .i64 sp], [] => (Sum.elim (fun v : Unit => k .nilp []) (fun v : Int => k (.ptr 0 0 0) [(.var [.nils, (.int .i64 v), (.int .i64 (0))])])) (S.dnew sp)
  | _, _ => none
theorem H27_ok : HndOk Try.prog 27 H27 := hnd_ok tis tisOk mixOk G55_ok F27 Try.func27 rfl (by
  intro R args σ k r h
  unfold H27 at h
  split at h
  · rename_i sp; exact ⟨0, (S.dnew_v sp _).trans h⟩
  · cases h)
def G27 : Env := Env.add 27 H27 G55
theorem G27_ok : EnvOk Try.prog G27 := envAdd_ok H27_ok G55_ok

/-! (*delay.Delay).Put -/
def F28 : FCfg := ⟨keepAt [(0, [0, 2, 4]), (1, [0, 2, 4, 7]), (2, [6]), (3, [0, 2, 4, 10]), (4, [6]), (5, [0, 2, 4]), (6, [0, 2, 4]), (7, []), (8, [6])], loopAt [], []⟩
theorem S.dput_k {R : Type} (l : WL) (lo len : Nat) (sp la t w : Int) (k : AVal → List Blk → Option R) : fnEval tis F28 0 G27 Try.f28 [.ptr 0 0 0, .int .i64 t, .int .i64 w] [.var [.slice 1 1 lo len none, .int .i64 sp, .int .i64 la], .rows (.box 92 (.pair (.int .i64) (.int .i64))) l false] k =
  (bif decide (t < la) then
    k (.int .i64 1) ([.var [.slice 1 1 lo len Option.none, .int .i64 sp, .int .i64 la], .rows (Cd.box 92 (Cd.pair (Cd.int .i64) (Cd.int .i64))) l false])
  else
    bif decide (1099511627776 < t) then
      k (.int .i64 1) ([.var [.slice 1 1 lo len Option.none, .int .i64 sp, .int .i64 la], .rows (Cd.box 92 (Cd.pair (Cd.int .i64) (Cd.int .i64))) l false])
    else
      bif decide (w < 0) then
        k (.int .i64 1) ([.var [.slice 1 1 lo len Option.none, .int .i64 sp, .int .i64 la], .rows (Cd.box 92 (Cd.pair (Cd.int .i64) (Cd.int .i64))) l false])
      else
        bif decide (1000000 < w) then
          k (.int .i64 1) ([.var [.slice 1 1 lo len Option.none, .int .i64 sp, .int .i64 la], .rows (Cd.box 92 (Cd.pair (Cd.int .i64) (Cd.int .i64))) l false])
        else
          (optK (S.ddel 100000 l lo len t) fun o6 =>
            bif Nat.beq 1 1 && Nat.blt 0 16 && Nat.beq 1 1 && Nat.beq 1 1 && Nat.beq 1 1 && Nat.blt 0 1 && !Nat.beq 1 3 && Nat.ble ((Prod.fst (Prod.snd o6) + 1) * 16) 35184372088832 then
              k (.int .i64 0) ([.var [.slice 1 2 0 (List.length (cutL (Prod.fst (Prod.snd (Prod.snd o6))) (Prod.fst o6) (Prod.fst (Prod.snd o6)) ++ cutL [Option.some (Prod.snd (Prod.snd (Prod.snd o6)), w)] 0 1)) Option.none, .int .i64 sp, .int .i64 t], .dead, .rows (Cd.box 92 (Cd.pair (Cd.int .i64) (Cd.int .i64))) (cutL (Prod.fst (Prod.snd (Prod.snd o6))) (Prod.fst o6) (Prod.fst (Prod.snd o6)) ++ cutL [Option.some (Prod.snd (Prod.snd (Prod.snd o6)), w)] 0 1) false])
            else
              none)) := by kernel_rfl
def S.dput (l : WL) (lo len : Nat) (sp la t w : Int) : Option ((Nat × Nat × Int × Int × WL) ⊕ (Nat × Int × Int × List (Option (Int × Int)))) :=
  bif decide (t < la) then
    some (.inl (lo, len, sp, la, l))
  else
    bif decide (1099511627776 < t) then
      some (.inl (lo, len, sp, la, l))
    else
      bif decide (w < 0) then
        some (.inl (lo, len, sp, la, l))
      else
        bif decide (1000000 < w) then
          some (.inl (lo, len, sp, la, l))
        else
          (optK (S.ddel 100000 l lo len t) fun o6 =>
            bif Nat.beq 1 1 && Nat.blt 0 16 && Nat.beq 1 1 && Nat.beq 1 1 && Nat.beq 1 1 && Nat.blt 0 1 && !Nat.beq 1 3 && Nat.ble ((Prod.fst (Prod.snd o6) + 1) * 16) 35184372088832 then
              some (.inr (List.length (cutL (Prod.fst (Prod.snd (Prod.snd o6))) (Prod.fst o6) (Prod.fst (Prod.snd o6)) ++ cutL [Option.some (Prod.snd (Prod.snd (Prod.snd o6)), w)] 0 1), sp, t, cutL (Prod.fst (Prod.snd (Prod.snd o6))) (Prod.fst o6) (Prod.fst (Prod.snd o6)) ++ cutL [Option.some (Prod.snd (Prod.snd (Prod.snd o6)), w)] 0 1))
            else
              none)
theorem S.dput_v {R : Type} (l : WL) (lo len : Nat) (sp la t w : Int) (k : AVal → List Blk → Option R) : fnEval tis F28 0 G27 Try.f28 [.ptr 0 0 0, .int .i64 t, .int .i64 w] [.var [.slice 1 1 lo len none, .int .i64 sp, .int .i64 la], .rows (.box 92 (.pair (.int .i64) (.int .i64))) l false] k = oK (Sum.elim (fun v : Nat × Nat × Int × Int × WL => k (.int .i64 (1)) [(.var [(.slice 1 1 v.1 v.2.1 none), (.int .i64 v.2.2.1), (.int .i64 v.2.2.2.1)]), (.rows (Cd.box 92 (Cd.pair (Cd.int .i64) (Cd.int .i64))) v.2.2.2.2 false)]) (fun v : Nat × Int × Int × List (Option (Int × Int)) => k (.int .i64 (0)) [(.var [(.slice 1 2 0 v.1 none), (.int .i64 v.2.1), (.int .i64 v.2.2.1)]), .dead, (.rows (Cd.box 92 (Cd.pair (Cd.int .i64) (Cd.int .i64))) v.2.2.2 false)])) (S.dput l lo len sp la t w) :=
  (S.dput_k l lo len sp la t w k).trans (bif_lift (f := (oK (Sum.elim (fun v : Nat × Nat × Int × Int × WL => k (.int .i64 (1)) [(.var [(.slice 1 1 v.1 v.2.1 none), (.int .i64 v.2.2.1), (.int .i64 v.2.2.2.1)]), (.rows (Cd.box 92 (Cd.pair (Cd.int .i64) (Cd.int .i64))) v.2.2.2.2 false)]) (fun v : Nat × Int × Int × List (Option (Int × Int)) => k (.int .i64 (0)) [(.var [(.slice 1 2 0 v.1 none), (.int .i64 v.2.1), (.int .i64 v.2.2.1)]), .dead, (.rows (Cd.box 92 (Cd.pair (Cd.int .i64) (Cd.int .i64))) v.2.2.2 false)])))) rfl (bif_lift (f := (oK (Sum.elim (fun v : Nat × Nat × Int × Int × WL => k (.int .i64 (1)) [(.var [(.slice 1 1 v.1 v.2.1 none), (.int .i64 v.2.2.1), (.int .i64 v.2.2.2.1)]), (.rows (Cd.box 92 (Cd.pair (Cd.int .i64) (Cd.int .i64))) v.2.2.2.2 false)]) (fun v : Nat × Int × Int × List (Option (Int × Int)) => k (.int .i64 (0)) [(.var [(.slice 1 2 0 v.1 none), (.int .i64 v.2.1), (.int .i64 v.2.2.1)]), .dead, (.rows (Cd.box 92 (Cd.pair (Cd.int .i64) (Cd.int .i64))) v.2.2.2 false)])))) rfl (bif_lift (f := (oK (Sum.elim (fun v : Nat × Nat × Int × Int × WL => k (.int .i64 (1)) [(.var [(.slice 1 1 v.1 v.2.1 none), (.int .i64 v.2.2.1), (.int .i64 v.2.2.2.1)]), (.rows (Cd.box 92 (Cd.pair (Cd.int .i64) (Cd.int .i64))) v.2.2.2.2 false)]) (fun v : Nat × Int × Int × List (Option (Int × Int)) => k (.int .i64 (0)) [(.var [(.slice 1 2 0 v.1 none), (.int .i64 v.2.1), (.int .i64 v.2.2.1)]), .dead, (.rows (Cd.box 92 (Cd.pair (Cd.int .i64) (Cd.int .i64))) v.2.2.2 false)])))) rfl (bif_lift (f := (oK (Sum.elim (fun v : Nat × Nat × Int × Int × WL => k (.int .i64 (1)) [(.var [(.slice 1 1 v.1 v.2.1 none), (.int .i64 v.2.2.1), (.int .i64 v.2.2.2.1)]), (.rows (Cd.box 92 (Cd.pair (Cd.int .i64) (Cd.int .i64))) v.2.2.2.2 false)]) (fun v : Nat × Int × Int × List (Option (Int × Int)) => k (.int .i64 (0)) [(.var [(.slice 1 2 0 v.1 none), (.int .i64 v.2.1), (.int .i64 v.2.2.1)]), .dead, (.rows (Cd.box 92 (Cd.pair (Cd.int .i64) (Cd.int .i64))) v.2.2.2 false)])))) rfl (opt_lift fun o6 => (bif_lift (f := (oK (Sum.elim (fun v : Nat × Nat × Int × Int × WL => k (.int .i64 (1)) [(.var [(.slice 1 1 v.1 v.2.1 none), (.int .i64 v.2.2.1), (.int .i64 v.2.2.2.1)]), (.rows (Cd.box 92 (Cd.pair (Cd.int .i64) (Cd.int .i64))) v.2.2.2.2 false)]) (fun v : Nat × Int × Int × List (Option (Int × Int)) => k (.int .i64 (0)) [(.var [(.slice 1 2 0 v.1 none), (.int .i64 v.2.1), (.int .i64 v.2.2.1)]), .dead, (.rows (Cd.box 92 (Cd.pair (Cd.int .i64) (Cd.int .i64))) v.2.2.2 false)])))) rfl rfl))))))
theorem S.dput1_k {R : Type} (sp la t w : Int) (k : AVal → List Blk → Option R) : fnEval tis F28 0 G27 Try.f28 [.ptr 0 0 0, .int .i64 t, .int .i64 w] [.var [.nils, .int .i64 sp, .int .i64 la]] k =
  (bif decide (t < la) then
    k (.int .i64 1) ([.var [.nils, .int .i64 sp, .int .i64 la]])
  else
    bif decide (1099511627776 < t) then
      k (.int .i64 1) ([.var [.nils, .int .i64 sp, .int .i64 la]])
    else
      bif decide (w < 0) then
        k (.int .i64 1) ([.var [.nils, .int .i64 sp, .int .i64 la]])
      else
        bif decide (1000000 < w) then
          k (.int .i64 1) ([.var [.nils, .int .i64 sp, .int .i64 la]])
        else
          k (.int .i64 0) ([.var [.slice 1 1 0 1 Option.none, .int .i64 sp, .int .i64 t], .rows (Cd.box 92 (Cd.pair (Cd.int .i64) (Cd.int .i64))) ([] ++ cutL [Option.some (t, w)] 0 1) false])) := by kernel_rfl
def S.dput1 (sp la t w : Int) : (Int × Int) ⊕ (Int × Int × List (Option (Int × Int))) :=
  bif decide (t < la) then
    (.inl (sp, la))
  else
    bif decide (1099511627776 < t) then
      (.inl (sp, la))
    else
      bif decide (w < 0) then
        (.inl (sp, la))
      else
        bif decide (1000000 < w) then
          (.inl (sp, la))
        else
          (.inr (sp, t, [] ++ cutL [Option.some (t, w)] 0 1))
theorem S.dput1_v {R : Type} (sp la t w : Int) (k : AVal → List Blk → Option R) : fnEval tis F28 0 G27 Try.f28 [.ptr 0 0 0, .int .i64 t, .int .i64 w] [.var [.nils, .int .i64 sp, .int .i64 la]] k = (Sum.elim (fun v : Int × Int => k (.int .i64 (1)) [(.var [.nils, (.int .i64 v.1), (.int .i64 v.2)])]) (fun v : Int × Int × List (Option (Int × Int)) => k (.int .i64 (0)) [(.var [(.slice 1 1 0 1 none), (.int .i64 v.1), (.int .i64 v.2.1)]), (.rows (Cd.box 92 (Cd.pair (Cd.int .i64) (Cd.int .i64))) v.2.2 false)])) (S.dput1 sp la t w) :=
  (S.dput1_k sp la t w k).trans (bif_lift (f := (Sum.elim (fun v : Int × Int => k (.int .i64 (1)) [(.var [.nils, (.int .i64 v.1), (.int .i64 v.2)])]) (fun v : Int × Int × List (Option (Int × Int)) => k (.int .i64 (0)) [(.var [(.slice 1 1 0 1 none), (.int .i64 v.1), (.int .i64 v.2.1)]), (.rows (Cd.box 92 (Cd.pair (Cd.int .i64) (Cd.int .i64))) v.2.2 false)]))) rfl (bif_lift (f := (Sum.elim (fun v : Int × Int => k (.int .i64 (1)) [(.var [.nils, (.int .i64 v.1), (.int .i64 v.2)])]) (fun v : Int × Int × List (Option (Int × Int)) => k (.int .i64 (0)) [(.var [(.slice 1 1 0 1 none), (.int .i64 v.1), (.int .i64 v.2.1)]), (.rows (Cd.box 92 (Cd.pair (Cd.int .i64) (Cd.int .i64))) v.2.2 false)]))) rfl (bif_lift (f := (Sum.elim (fun v : Int × Int => k (.int .i64 (1)) [(.var [.nils, (.int .i64 v.1), (.int .i64 v.2)])]) (fun v : Int × Int × List (Option (Int × Int)) => k (.int .i64 (0)) [(.var [(.slice 1 1 0 1 none), (.int .i64 v.1), (.int .i64 v.2.1)]), (.rows (Cd.box 92 (Cd.pair (Cd.int .i64) (Cd.int .i64))) v.2.2 false)]))) rfl (bif_lift (f := (Sum.elim (fun v : Int × Int => k (.int .i64 (1)) [(.var [.nils, (.int .i64 v.1), (.int .i64 v.2)])]) (fun v : Int × Int × List (Option (Int × Int)) => k (.int .i64 (0)) [(.var [(.slice 1 1 0 1 none), (.int .i64 v.1), (.int .i64 v.2.1)]), (.rows (Cd.box 92 (Cd.pair (Cd.int .i64) (Cd.int .i64))) v.2.2 false)]))) rfl rfl))))
theorem S.dput2_k {R : Type} (t w : Int) (k : AVal → List Blk → Option R) : fnEval tis F28 0 G27 Try.f28 [.nilp, .int .i64 t, .int .i64 w] [] k =
  (k (.int .i64 8) ([])) := by kernel_rfl
def S.dput2 (t w : Int) : Int :=
  (8)
theorem S.dput2_v {R : Type} (t w : Int) (k : AVal → List Blk → Option R) : fnEval tis F28 0 G27 Try.f28 [.nilp, .int .i64 t, .int .i64 w] [] k = k (.int .i64 (S.dput2 t w)) [] :=
  (S.dput2_k t w k).trans rfl
def H28 : Hnd := fun R args σ k => match args, σ with
  | [.ptr 0 0 0, .int .i64 t, .int .i64 w], [.var [.slice 1 1 lo len none, .int .i64 sp, .int .i64 la], .rows (.box 92 (.pair (.int .i64) (.int .i64))) l false] => oK (Sum.elim (fun v : Nat × Nat × Int × Int × WL => k (.int .i64 (1)) [(.var [(.slice 1 1 v.1 v.2.1 none), (.int .i64 v.2.2.1), (.int .i64 v.2.2.2.1)]), (.rows (Cd.box 92 (Cd.pair (Cd.int .i64) (Cd.int .i64))) v.2.2.2.2 false)]) (fun v : Nat × Int × Int × List (Option (Int × Int)) => k (.int .i64 (0)) [(.var [(.slice 1 2 0 v.1 none), (.int .i64 v.2.1), (.int .i64 v.2.2.1)]), .dead, (.rows (Cd.box 92 (Cd.pair (Cd.int .i64) (Cd.int .i64))) v.2.2.2 false)])) (S.dput l lo len sp la t w)
  | [.ptr 0 0 0, .int .i64 t, .int .i64 w], [.var [.nils, .int .i64 sp, .int .i64 la]] => (Sum.elim (fun v : Int × Int => k (.int .i64 (1)) [(.var [.nils, (.int .i64 v.1), (.int .i64 v.2)])]) (fun v : Int × Int × List (Option (Int × Int)) => k (.int .i64 (0)) [(.var [(.slice 1 1 0 1 none), (.int .i64 v.1), (.int .i64 v.2.1)]), (.rows (Cd.box 92 (Cd.pair (Cd.int .i64) (Cd.int .i64))) v.2.2 false)])) (S.dput1 sp la t w)
  | [.nilp, .int .i64 t, .int .i64 w], [] => k (.int .i64 (S.dput2 t w)) []
  | _, _ => none
theorem H28_ok : HndOk Try.prog 28 H28 := hnd_ok tis tisOk mixOk G27_ok F28 Try.func28 rfl (by
  intro R args σ k r h
  unfold H28 at h
  split at h
  · rename_i t w lo len sp la l; exact ⟨0, (S.dput_v l lo len sp la t w _).trans h⟩
  · rename_i t w sp la; exact ⟨0, (S.dput1_v sp la t w _).trans h⟩
  · rename_i t w; exact ⟨0, (S.dput2_v t w _).trans h⟩
  · cases h)
def G28 : Env := Env.add 28 H28 G27
theorem G28_ok : EnvOk Try.prog G28 := envAdd_ok H28_ok G27_ok

/-! (*delay.Delay).Most -/
def F29 : FCfg := ⟨keepAt [(0, [0, 1]), (1, [0, 1, 11]), (2, [4]), (3, [0, 1]), (4, [0, 1, 5]), (5, [0, 1, 5, 17, 18, 19]), (6, [0, 1, 5, 17, 18, 19, 20]), (7, [0, 1, 5, 7, 17, 18, 19]), (8, [0, 1, 5, 8, 9, 17, 18, 19]), (9, [0, 1, 5, 8, 17, 18, 19, 45]), (10, [0, 1, 5, 17, 18, 19]), (11, [0, 1, 5, 17, 18, 19]), (12, [4])], loopAt [(6, [0, 1, 5, 17, 18, 19], [])], []⟩
noncomputable def C_dmost (fu : Nat) (l : WL) (lo len : Nat) (sp la t : Int) : Cfg := Cfg.of tis F29 fu (List.length ([.var [.slice 1 1 lo len none, .int .i64 sp, .int .i64 la], .rows (.box 92 (.pair (.int .i64) (.int .i64))) l false] : List Blk)) Try.f29.ntmps
noncomputable def S.dmost_b0 : Code := codeAt (bodyOf Try.f29) [1, 1, 1, 1, 0, 1, 0, 0]
noncomputable def S.dmost_s0 (l : WL) (lo len : Nat) (sp la t : Int) (y0 : Int) (y1 : Int) : St := ⟨[(0, (.ptr 0 (0) 0)), (1, (.int .i64 (if 0 > t then 0 else t))), (5, (.int .i64 (y0))), (17, (.slice 1 1 (lo) (len) none)), (18, (.int .i64 (((len : Nat) : Int)))), (19, (.int .i64 (y1)))], [(.var [(.slice 1 1 (lo) (len) none), (.int .i64 (sp)), (.int .i64 (la))]), (.rows (Cd.box 92 (Cd.pair (Cd.int .i64) (Cd.int .i64))) (l) false)]⟩
noncomputable def S.dmost_x0_0 (l : WL) (lo len : Nat) (sp la t : Int) (z0 : Int) (z1 : Int) (z2 : Bool) : St := ⟨[(0, (.ptr 0 (0) 0)), (1, (.int .i64 (if 0 > t then 0 else t))), (5, (.int .i64 (z0))), (17, (.slice 1 1 (lo) (len) none)), (18, (.int .i64 (((len : Nat) : Int)))), (19, (.int .i64 (z1))), (20, (.bool (z2)))], [(.var [(.slice 1 1 (lo) (len) none), (.int .i64 (sp)), (.int .i64 (la))]), (.rows (Cd.box 92 (Cd.pair (Cd.int .i64) (Cd.int .i64))) (l) false)]⟩
theorem S.dmost_l0_k {R : Type} (fu : Nat) (l : WL) (lo len : Nat) (sp la t : Int) (n : Nat) (K : Ex → St → Option R) (y0 : Int) (y1 : Int) : loopRun (C_dmost fu l lo len sp la t) G28 S.dmost_b0 (n + 1) (S.dmost_s0 l lo len sp la t (y0) (y1)) K =
  (bif decide (y1 < ((len : Nat) : Int)) then
    bif inB y1 len then
      (optK (l[Int.toNat y1 + lo]?) fun o4 =>
        (optC (o4) (loopRun (C_dmost fu l lo len sp la t) G28 S.dmost_b0 n (S.dmost_s0 l lo len sp la t (y0) (Go.IntKind.wrap .i64 (y1 + 1))) K) fun o5 =>
          bif decide ((if 0 > t then 0 else t) ≤ Prod.fst o5) then
            loopRun (C_dmost fu l lo len sp la t) G28 S.dmost_b0 n (S.dmost_s0 l lo len sp la t (if Prod.snd o5 > y0 then Prod.snd o5 else y0) (Go.IntKind.wrap .i64 (y1 + 1))) K
          else
            bif decide (Go.IntKind.wrap .i64 ((if 0 > t then 0 else t) - Prod.fst o5) < sp) then
              loopRun (C_dmost fu l lo len sp la t) G28 S.dmost_b0 n (S.dmost_s0 l lo len sp la t (if Prod.snd o5 > y0 then Prod.snd o5 else y0) (Go.IntKind.wrap .i64 (y1 + 1))) K
            else
              loopRun (C_dmost fu l lo len sp la t) G28 S.dmost_b0 n (S.dmost_s0 l lo len sp la t (y0) (Go.IntKind.wrap .i64 (y1 + 1))) K))
    else
      none
  else
    K (Ex.exit 0) (S.dmost_x0_0 l lo len sp la t (y0) (y1) (decide (y1 < ((len : Nat) : Int))))) := by kernel_rfl
def S.dmost_l0 (fu : Nat) (l : WL) (lo len : Nat) (sp la t : Int) : Nat → (Int) → (Int) → Option ((Int × Int × Bool))
  | 0, _, _ => none
  | n + 1, y0, y1 =>
    bif decide (y1 < ((len : Nat) : Int)) then
      bif inB y1 len then
        (optK (l[Int.toNat y1 + lo]?) fun o4 =>
          (optC (o4) ((S.dmost_l0 fu l lo len sp la t n) (y0) (Go.IntKind.wrap .i64 (y1 + 1))) fun o5 =>
            bif decide ((if 0 > t then 0 else t) ≤ Prod.fst o5) then
              (S.dmost_l0 fu l lo len sp la t n) (if Prod.snd o5 > y0 then Prod.snd o5 else y0) (Go.IntKind.wrap .i64 (y1 + 1))
            else
              bif decide (Go.IntKind.wrap .i64 ((if 0 > t then 0 else t) - Prod.fst o5) < sp) then
                (S.dmost_l0 fu l lo len sp la t n) (if Prod.snd o5 > y0 then Prod.snd o5 else y0) (Go.IntKind.wrap .i64 (y1 + 1))
              else
                (S.dmost_l0 fu l lo len sp la t n) (y0) (Go.IntKind.wrap .i64 (y1 + 1))))
      else
        none
    else
      some (y0, y1, decide (y1 < ((len : Nat) : Int)))
theorem S.dmost_l0_v {R : Type} (fu : Nat) (l : WL) (lo len : Nat) (sp la t : Int) (K : Ex → St → Option R) : ∀ (n : Nat) (y0 : Int) (y1 : Int), loopRun (C_dmost fu l lo len sp la t) G28 S.dmost_b0 n (S.dmost_s0 l lo len sp la t (y0) (y1)) K = oK (β := (Int × Int × Bool)) (fun z : Int × Int × Bool => K (Ex.exit 0) (S.dmost_x0_0 l lo len sp la t (z.1) (z.2.1) (z.2.2))) (S.dmost_l0 fu l lo len sp la t n y0 y1)
  | 0, _, _ => rfl
  | n + 1, y0, y1 => (S.dmost_l0_k fu l lo len sp la t n K y0 y1).trans (bif_lift (f := (oK (β := (Int × Int × Bool)) (fun z : Int × Int × Bool => K (Ex.exit 0) (S.dmost_x0_0 l lo len sp la t (z.1) (z.2.1) (z.2.2))))) (bif_lift (f := (oK (β := (Int × Int × Bool)) (fun z : Int × Int × Bool => K (Ex.exit 0) (S.dmost_x0_0 l lo len sp la t (z.1) (z.2.1) (z.2.2))))) (opt_lift fun o4 => (optC_lift (f := (oK (β := (Int × Int × Bool)) (fun z : Int × Int × Bool => K (Ex.exit 0) (S.dmost_x0_0 l lo len sp la t (z.1) (z.2.1) (z.2.2))))) (S.dmost_l0_v fu l lo len sp la t K n (y0) (Go.IntKind.wrap .i64 (y1 + 1))) fun o5 => (bif_lift (f := (oK (β := (Int × Int × Bool)) (fun z : Int × Int × Bool => K (Ex.exit 0) (S.dmost_x0_0 l lo len sp la t (z.1) (z.2.1) (z.2.2))))) (S.dmost_l0_v fu l lo len sp la t K n (if Prod.snd o5 > y0 then Prod.snd o5 else y0) (Go.IntKind.wrap .i64 (y1 + 1))) (bif_lift (f := (oK (β := (Int × Int × Bool)) (fun z : Int × Int × Bool => K (Ex.exit 0) (S.dmost_x0_0 l lo len sp la t (z.1) (z.2.1) (z.2.2))))) (S.dmost_l0_v fu l lo len sp la t K n (if Prod.snd o5 > y0 then Prod.snd o5 else y0) (Go.IntKind.wrap .i64 (y1 + 1))) (S.dmost_l0_v fu l lo len sp la t K n (y0) (Go.IntKind.wrap .i64 (y1 + 1))))))) rfl) rfl)
theorem S.dmost_a0_0_k {R : Type} (fu : Nat) (l : WL) (lo len : Nat) (sp la t : Int) (z0 : Int) (z1 : Int) (z2 : Bool) (k : AVal → List Blk → Option R) : contOf (C_dmost fu l lo len sp la t) G28 (bodyOf Try.f29) [1, 1, 1, 1, 0, 1, 0] (retK tis F29 Try.f29 (List.length ([.var [.slice 1 1 lo len none, .int .i64 sp, .int .i64 la], .rows (.box 92 (.pair (.int .i64) (.int .i64))) l false] : List Blk)) k) (Ex.exit 0) (S.dmost_x0_0 l lo len sp la t (z0) (z1) (z2)) =
  (k (.int .i64 z0) ([.var [.slice 1 1 lo len Option.none, .int .i64 sp, .int .i64 la], .rows (Cd.box 92 (Cd.pair (Cd.int .i64) (Cd.int .i64))) l false])) := by kernel_rfl
def S.dmost_a0_0 (fu : Nat) (l : WL) (lo len : Nat) (sp la t : Int) (z0 : Int) (z1 : Int) (z2 : Bool) : Option (Int × Nat × Nat × Int × Int × WL) :=
  some (z0, lo, len, sp, la, l)
theorem S.dmost_a0_0_v {R : Type} (fu : Nat) (l : WL) (lo len : Nat) (sp la t : Int) (z0 : Int) (z1 : Int) (z2 : Bool) (k : AVal → List Blk → Option R) : contOf (C_dmost fu l lo len sp la t) G28 (bodyOf Try.f29) [1, 1, 1, 1, 0, 1, 0] (retK tis F29 Try.f29 (List.length ([.var [.slice 1 1 lo len none, .int .i64 sp, .int .i64 la], .rows (.box 92 (.pair (.int .i64) (.int .i64))) l false] : List Blk)) k) (Ex.exit 0) (S.dmost_x0_0 l lo len sp la t (z0) (z1) (z2)) = oK (fun v : Int × Nat × Nat × Int × Int × WL => k (.int .i64 v.1) [(.var [(.slice 1 1 v.2.1 v.2.2.1 none), (.int .i64 v.2.2.2.1), (.int .i64 v.2.2.2.2.1)]), (.rows (Cd.box 92 (Cd.pair (Cd.int .i64) (Cd.int .i64))) v.2.2.2.2.2 false)]) (S.dmost_a0_0 fu l lo len sp la t z0 z1 z2) :=
  (S.dmost_a0_0_k fu l lo len sp la t z0 z1 z2 k).trans rfl
theorem S.dmost_k {R : Type} (fu : Nat) (l : WL) (lo len : Nat) (sp la t : Int) (k : AVal → List Blk → Option R) : fnEval tis F29 fu G28 Try.f29 [.ptr 0 0 0, .int .i64 t] [.var [.slice 1 1 lo len none, .int .i64 sp, .int .i64 la], .rows (.box 92 (.pair (.int .i64) (.int .i64))) l false] k =
  (loopRun (C_dmost fu l lo len sp la t) G28 S.dmost_b0 fu (S.dmost_s0 l lo len sp la t (0) (0)) (contOf (C_dmost fu l lo len sp la t) G28 (bodyOf Try.f29) [1, 1, 1, 1, 0, 1, 0] (retK tis F29 Try.f29 (List.length ([.var [.slice 1 1 lo len none, .int .i64 sp, .int .i64 la], .rows (.box 92 (.pair (.int .i64) (.int .i64))) l false] : List Blk)) k))) := by kernel_rfl
def S.dmost (fu : Nat) (l : WL) (lo len : Nat) (sp la t : Int) : Option (Int × Nat × Nat × Int × Int × WL) :=
  optK (S.dmost_l0 fu l lo len sp la t fu (0) (0)) (fun z : Int × Int × Bool => S.dmost_a0_0 fu l lo len sp la t (z.1) (z.2.1) (z.2.2))
theorem S.dmost_v {R : Type} (fu : Nat) (l : WL) (lo len : Nat) (sp la t : Int) (k : AVal → List Blk → Option R) : fnEval tis F29 fu G28 Try.f29 [.ptr 0 0 0, .int .i64 t] [.var [.slice 1 1 lo len none, .int .i64 sp, .int .i64 la], .rows (.box 92 (.pair (.int .i64) (.int .i64))) l false] k = oK (fun v : Int × Nat × Nat × Int × Int × WL => k (.int .i64 v.1) [(.var [(.slice 1 1 v.2.1 v.2.2.1 none), (.int .i64 v.2.2.2.1), (.int .i64 v.2.2.2.2.1)]), (.rows (Cd.box 92 (Cd.pair (Cd.int .i64) (Cd.int .i64))) v.2.2.2.2.2 false)]) (S.dmost fu l lo len sp la t) :=
  (S.dmost_k fu l lo len sp la t k).trans (arr_lift (S.dmost_l0_v fu l lo len sp la t (contOf (C_dmost fu l lo len sp la t) G28 (bodyOf Try.f29) [1, 1, 1, 1, 0, 1, 0] (retK tis F29 Try.f29 (List.length ([.var [.slice 1 1 lo len none, .int .i64 sp, .int .i64 la], .rows (.box 92 (.pair (.int .i64) (.int .i64))) l false] : List Blk)) k)) fu (0) (0)) ((fun z => S.dmost_a0_0_v fu l lo len sp la t (z.1) (z.2.1) (z.2.2) k)))
noncomputable def C_dmost1 (fu : Nat) (sp la t : Int) : Cfg := Cfg.of tis F29 fu (List.length ([.var [.nils, .int .i64 sp, .int .i64 la]] : List Blk)) Try.f29.ntmps
noncomputable def S.dmost1_b0 : Code := codeAt (bodyOf Try.f29) [1, 1, 1, 1, 0, 1, 0, 0]
noncomputable def S.dmost1_s0 (sp la t : Int)  : St := ⟨[(0, (.ptr 0 (0) 0)), (1, (.int .i64 (if 0 > t then 0 else t))), (5, (.int .i64 (0))), (17, .nils), (18, (.int .i64 (0))), (19, (.int .i64 (0)))], [(.var [.nils, (.int .i64 (sp)), (.int .i64 (la))])]⟩
noncomputable def S.dmost1_x0_0 (sp la t : Int)  : St := ⟨[(0, (.ptr 0 (0) 0)), (1, (.int .i64 (if 0 > t then 0 else t))), (5, (.int .i64 (0))), (17, .nils), (18, (.int .i64 (0))), (19, (.int .i64 (0))), (20, (.bool (false)))], [(.var [.nils, (.int .i64 (sp)), (.int .i64 (la))])]⟩
theorem S.dmost1_l0_k {R : Type} (fu : Nat) (sp la t : Int) (n : Nat) (K : Ex → St → Option R)  : loopRun (C_dmost1 fu sp la t) G28 S.dmost1_b0 (n + 1) (S.dmost1_s0 sp la t) K =
  (K (Ex.exit 0) (S.dmost1_x0_0 sp la t)) := by kernel_rfl
def S.dmost1_l0 (fu : Nat) (sp la t : Int) : Nat → Option ((Unit))
  | 0 => none
  | n + 1 =>
    some ()
theorem S.dmost1_l0_v {R : Type} (fu : Nat) (sp la t : Int) (K : Ex → St → Option R) : ∀ (n : Nat) , loopRun (C_dmost1 fu sp la t) G28 S.dmost1_b0 n (S.dmost1_s0 sp la t) K = oK (β := (Unit)) (fun z : Unit => K (Ex.exit 0) (S.dmost1_x0_0 sp la t)) (S.dmost1_l0 fu sp la t n)
  | 0 => rfl
  | n + 1 => (S.dmost1_l0_k fu sp la t n K).trans rfl
theorem S.dmost1_a0_0_k {R : Type} (fu : Nat) (sp la t : Int)  (k : AVal → List Blk → Option R) : contOf (C_dmost1 fu sp la t) G28 (bodyOf Try.f29) [1, 1, 1, 1, 0, 1, 0] (retK tis F29 Try.f29 (List.length ([.var [.nils, .int .i64 sp, .int .i64 la]] : List Blk)) k) (Ex.exit 0) (S.dmost1_x0_0 sp la t) =
  (k (.int .i64 0) ([.var [.nils, .int .i64 sp, .int .i64 la]])) := by kernel_rfl
def S.dmost1_a0_0 (fu : Nat) (sp la t : Int)  : Option (Int × Int × Int) :=
  some (0, sp, la)
theorem S.dmost1_a0_0_v {R : Type} (fu : Nat) (sp la t : Int)  (k : AVal → List Blk → Option R) : contOf (C_dmost1 fu sp la t) G28 (bodyOf Try.f29) [1, 1, 1, 1, 0, 1, 0] (retK tis F29 Try.f29 (List.length ([.var [.nils, .int .i64 sp, .int .i64 la]] : List Blk)) k) (Ex.exit 0) (S.dmost1_x0_0 sp la t) = oK (fun v : Int × Int × Int => k (.int .i64 v.1) [(.var [.nils, (.int .i64 v.2.1), (.int .i64 v.2.2)])]) (S.dmost1_a0_0 fu sp la t) :=
  (S.dmost1_a0_0_k fu sp la t k).trans rfl
theorem S.dmost1_k {R : Type} (fu : Nat) (sp la t : Int) (k : AVal → List Blk → Option R) : fnEval tis F29 fu G28 Try.f29 [.ptr 0 0 0, .int .i64 t] [.var [.nils, .int .i64 sp, .int .i64 la]] k =
  (loopRun (C_dmost1 fu sp la t) G28 S.dmost1_b0 fu (S.dmost1_s0 sp la t) (contOf (C_dmost1 fu sp la t) G28 (bodyOf Try.f29) [1, 1, 1, 1, 0, 1, 0] (retK tis F29 Try.f29 (List.length ([.var [.nils, .int .i64 sp, .int .i64 la]] : List Blk)) k))) := by kernel_rfl
def S.dmost1 (fu : Nat) (sp la t : Int) : Option (Int × Int × Int) :=
  optK (S.dmost1_l0 fu sp la t fu) (fun z : Unit => S.dmost1_a0_0 fu sp la t)
theorem S.dmost1_v {R : Type} (fu : Nat) (sp la t : Int) (k : AVal → List Blk → Option R) : fnEval tis F29 fu G28 Try.f29 [.ptr 0 0 0, .int .i64 t] [.var [.nils, .int .i64 sp, .int .i64 la]] k = oK (fun v : Int × Int × Int => k (.int .i64 v.1) [(.var [.nils, (.int .i64 v.2.1), (.int .i64 v.2.2)])]) (S.dmost1 fu sp la t) :=
  (S.dmost1_k fu sp la t k).trans (arr_lift (S.dmost1_l0_v fu sp la t (contOf (C_dmost1 fu sp la t) G28 (bodyOf Try.f29) [1, 1, 1, 1, 0, 1, 0] (retK tis F29 Try.f29 (List.length ([.var [.nils, .int .i64 sp, .int .i64 la]] : List Blk)) k)) fu) ((fun z => S.dmost1_a0_0_v fu sp la t k)))
noncomputable def C_dmost2 (fu : Nat) (t : Int) : Cfg := Cfg.of tis F29 fu (List.length ([] : List Blk)) Try.f29.ntmps
noncomputable def S.dmost2_b0 : Code := codeAt (bodyOf Try.f29) [1, 1, 1, 1, 0, 1, 0, 0]
theorem S.dmost2_k {R : Type} (fu : Nat) (t : Int) (k : AVal → List Blk → Option R) : fnEval tis F29 fu G28 Try.f29 [.nilp, .int .i64 t] [] k =
  (k (.int .i64 0) ([])) := by kernel_rfl
def S.dmost2 (fu : Nat) (t : Int) : Option (Int) :=
  some (0)
theorem S.dmost2_v {R : Type} (fu : Nat) (t : Int) (k : AVal → List Blk → Option R) : fnEval tis F29 fu G28 Try.f29 [.nilp, .int .i64 t] [] k = oK (fun v : Int => k (.int .i64 v) []) (S.dmost2 fu t) :=
  (S.dmost2_k fu t k).trans rfl
def H29 : Hnd := fun R args σ k => match args, σ with
  | [.ptr 0 0 0, .int .i64 t], [.var [.slice 1 1 lo len none, .int .i64 sp, .int .i64 la], .rows (.box 92 (.pair (.int .i64) (.int .i64))) l false] => oK (fun v : Int × Nat × Nat × Int × Int × WL => k (.int .i64 v.1) [(.var [(.slice 1 1 v.2.1 v.2.2.1 none), (.int .i64 v.2.2.2.1), (.int .i64 v.2.2.2.2.1)]), (.rows (Cd.box 92 (Cd.pair (Cd.int .i64) (Cd.int .i64))) v.2.2.2.2.2 false)]) (S.dmost 100000 l lo len sp la t)
  | [.ptr 0 0 0, .int .i64 t], [.var [.nils, .int .i64 sp, .int .i64 la]] => oK (fun v : Int × Int × Int => k (.int .i64 v.1) [(.var [.nils, (.int .i64 v.2.1), (.int .i64 v.2.2)])]) (S.dmost1 100000 sp la t)
  | [.nilp, .int .i64 t], [] => oK (fun v : Int => k (.int .i64 v) []) (S.dmost2 100000 t)
  | _, _ => none
theorem H29_ok : HndOk Try.prog 29 H29 := hnd_ok tis tisOk mixOk G28_ok F29 Try.func29 rfl (by
  intro R args σ k r h
  unfold H29 at h
  split at h
  · rename_i t lo len sp la l; exact ⟨100000, (S.dmost_v 100000 l lo len sp la t _).trans h⟩
  · rename_i t sp la; exact ⟨100000, (S.dmost1_v 100000 sp la t _).trans h⟩
  · rename_i t; exact ⟨100000, (S.dmost2_v 100000 t _).trans h⟩
  · cases h)
def G29 : Env := Env.add 29 H29 G28
theorem G29_ok : EnvOk Try.prog G29 := envAdd_ok H29_ok G28_ok

/-! (*delay.Delay).Span -/
def F30 : FCfg := ⟨keepAt [(0, [0, 1]), (1, [0, 1, 5]), (2, [4]), (3, [0, 1, 8]), (4, [4]), (5, []), (6, [4])], loopAt [], []⟩
theorem S.dspan_k {R : Type} (l : WL) (lo len : Nat) (sp la x : Int) (k : AVal → List Blk → Option R) : fnEval tis F30 0 G29 Try.f30 [.ptr 0 0 0, .int .i64 x] [.var [.slice 1 1 lo len none, .int .i64 sp, .int .i64 la], .rows (.box 92 (.pair (.int .i64) (.int .i64))) l false] k =
  (bif decide (x < 0) then
    k (.int .i64 1) ([.var [.slice 1 1 lo len Option.none, .int .i64 sp, .int .i64 la], .rows (Cd.box 92 (Cd.pair (Cd.int .i64) (Cd.int .i64))) l false])
  else
    bif decide (600 < x) then
      k (.int .i64 1) ([.var [.slice 1 1 lo len Option.none, .int .i64 sp, .int .i64 la], .rows (Cd.box 92 (Cd.pair (Cd.int .i64) (Cd.int .i64))) l false])
    else
      k (.int .i64 0) ([.var [.slice 1 1 lo len Option.none, .int .i64 x, .int .i64 la], .rows (Cd.box 92 (Cd.pair (Cd.int .i64) (Cd.int .i64))) l false])) := by kernel_rfl
def S.dspan (l : WL) (lo len : Nat) (sp la x : Int) : Int × Nat × Nat × Int × Int × WL :=
  bif decide (x < 0) then
    (1, lo, len, sp, la, l)
  else
    bif decide (600 < x) then
      (1, lo, len, sp, la, l)
    else
      (0, lo, len, x, la, l)
theorem S.dspan_v {R : Type} (l : WL) (lo len : Nat) (sp la x : Int) (k : AVal → List Blk → Option R) : fnEval tis F30 0 G29 Try.f30 [.ptr 0 0 0, .int .i64 x] [.var [.slice 1 1 lo len none, .int .i64 sp, .int .i64 la], .rows (.box 92 (.pair (.int .i64) (.int .i64))) l false] k = k (.int .i64 (S.dspan l lo len sp la x).1) [(.var [(.slice 1 1 (S.dspan l lo len sp la x).2.1 (S.dspan l lo len sp la x).2.2.1 none), (.int .i64 (S.dspan l lo len sp la x).2.2.2.1), (.int .i64 (S.dspan l lo len sp la x).2.2.2.2.1)]), (.rows (Cd.box 92 (Cd.pair (Cd.int .i64) (Cd.int .i64))) (S.dspan l lo len sp la x).2.2.2.2.2 false)] :=
  (S.dspan_k l lo len sp la x k).trans (bif_lift (f := (fun v : Int × Nat × Nat × Int × Int × WL => k (.int .i64 v.1) [(.var [(.slice 1 1 v.2.1 v.2.2.1 none), (.int .i64 v.2.2.2.1), (.int .i64 v.2.2.2.2.1)]), (.rows (Cd.box 92 (Cd.pair (Cd.int .i64) (Cd.int .i64))) v.2.2.2.2.2 false)])) rfl (bif_lift (f := (fun v : Int × Nat × Nat × Int × Int × WL => k (.int .i64 v.1) [(.var [(.slice 1 1 v.2.1 v.2.2.1 none), (.int .i64 v.2.2.2.1), (.int .i64 v.2.2.2.2.1)]), (.rows (Cd.box 92 (Cd.pair (Cd.int .i64) (Cd.int .i64))) v.2.2.2.2.2 false)])) rfl rfl))
theorem S.dspan1_k {R : Type} (sp la x : Int) (k : AVal → List Blk → Option R) : fnEval tis F30 0 G29 Try.f30 [.ptr 0 0 0, .int .i64 x] [.var [.nils, .int .i64 sp, .int .i64 la]] k =
  (bif decide (x < 0) then
    k (.int .i64 1) ([.var [.nils, .int .i64 sp, .int .i64 la]])
  else
    bif decide (600 < x) then
      k (.int .i64 1) ([.var [.nils, .int .i64 sp, .int .i64 la]])
    else
      k (.int .i64 0) ([.var [.nils, .int .i64 x, .int .i64 la]])) := by kernel_rfl
def S.dspan1 (sp la x : Int) : Int × Int × Int :=
  bif decide (x < 0) then
    (1, sp, la)
  else
    bif decide (600 < x) then
      (1, sp, la)
    else
      (0, x, la)
theorem S.dspan1_v {R : Type} (sp la x : Int) (k : AVal → List Blk → Option R) : fnEval tis F30 0 G29 Try.f30 [.ptr 0 0 0, .int .i64 x] [.var [.nils, .int .i64 sp, .int .i64 la]] k = k (.int .i64 (S.dspan1 sp la x).1) [(.var [.nils, (.int .i64 (S.dspan1 sp la x).2.1), (.int .i64 (S.dspan1 sp la x).2.2)])] :=
  (S.dspan1_k sp la x k).trans (bif_lift (f := (fun v : Int × Int × Int => k (.int .i64 v.1) [(.var [.nils, (.int .i64 v.2.1), (.int .i64 v.2.2)])])) rfl (bif_lift (f := (fun v : Int × Int × Int => k (.int .i64 v.1) [(.var [.nils, (.int .i64 v.2.1), (.int .i64 v.2.2)])])) rfl rfl))
def H30 : Hnd := fun R args σ k => match args, σ with
  | [.ptr 0 0 0, .int .i64 x], [.var [.slice 1 1 lo len none, .int .i64 sp, .int .i64 la], .rows (.box 92 (.pair (.int .i64) (.int .i64))) l false] => k (.int .i64 (S.dspan l lo len sp la x).1) [(.var [(.slice 1 1 (S.dspan l lo len sp la x).2.1 (S.dspan l lo len sp la x).2.2.1 none), (.int .i64 (S.dspan l lo len sp la x).2.2.2.1), (.int .i64 (S.dspan l lo len sp la x).2.2.2.2.1)]), (.rows (Cd.box 92 (Cd.pair (Cd.int .i64) (Cd.int .i64))) (S.dspan l lo len sp la x).2.2.2.2.2 false)]
  | [.ptr 0 0 0, .int .i64 x], [.var [.nils, .int .i64 sp, .int .i64 la]] => k (.int .i64 (S.dspan1 sp la x).1) [(.var [.nils, (.int .i64 (S.dspan1 sp la x).2.1), (.int .i64 (S.dspan1 sp la x).2.2)])]
  | _, _ => none
theorem H30_ok : HndOk Try.prog 30 H30 := hnd_ok tis tisOk mixOk G29_ok F30 Try.func30 rfl (by
  intro R args σ k r h
  unfold H30 at h
  split at h
  · rename_i x lo len sp la l; exact ⟨0, (S.dspan_v l lo len sp la x _).trans h⟩
  · rename_i x sp la; exact ⟨0, (S.dspan1_v sp la x _).trans h⟩
  · cases h)
def G30 : Env := Env.add 30 H30 G29
theorem G30_ok : EnvOk Try.prog G30 := envAdd_ok H30_ok G29_ok

/-! spinnakerlaw15.told -/
def F31 : FCfg := ⟨keepAt [(0, []), (1, [1]), (2, [1, 13]), (3, [0]), (4, [1, 2, 3, 4]), (5, [1, 2, 3, 4, 5, 6, 7]), (6, [1, 2, 3, 4, 5, 6, 7, 8, 9]), (7, [1, 2, 3, 4, 5, 6, 7, 8, 9, 10]), (8, [0])], loopAt [], []⟩
theorem S.told15_k {R : Type}  (k : AVal → List Blk → Option R) : fnEval tis F31 0 G30 Try.f31 [] [] k =
  (k (.bool true) ([])) := by kernel_rfl
def S.told15  : Bool :=
  (true)
theorem S.told15_v {R : Type}  (k : AVal → List Blk → Option R) : fnEval tis F31 0 G30 Try.f31 [] [] k = k (.bool (S.told15)) [] :=
  (S.told15_k k).trans rfl
def H31 : Hnd := fun R args σ k => match args, σ with
  | [], [] => k (.bool (S.told15)) []
  | _, _ => none
theorem H31_ok : HndOk Try.prog 31 H31 := hnd_ok tis tisOk mixOk G30_ok F31 Try.func31 rfl (by
  intro R args σ k r h
  unfold H31 at h
  split at h
  · exact ⟨0, (S.told15_v _).trans h⟩
  · cases h)
def G31 : Env := Env.add 31 H31 G30
theorem G31_ok : EnvOk Try.prog G31 := envAdd_ok H31_ok G30_ok
end Go.Proofs.Ytfoaihjkmfhaoaa.AB
