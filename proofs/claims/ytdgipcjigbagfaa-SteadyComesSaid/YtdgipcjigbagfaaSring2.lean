/- Rings, as plain functions: the methods. -/
import Derived.Test.YtdgipcjigbagfaaSring
namespace Go.Proofs.Ytdgipcjigbagfaa.AB
set_option linter.unusedVariables false

/-! (*ring.Ring).forget -/
def F82 : FCfg := ⟨keepAt [(0, [1]), (1, [])], loopAt [], []⟩
theorem S.rgo_k {R : Type} (l : FL) (f : BL) (lo len : Nat) (rw rg rn nw : Int) (ov : Bool) (k : AVal → List Blk → Option R) : fnEval tis F82 0 G72 Try.f82 [.ptr 0 0 0] [.var [.slice 1 1 lo len none, .int .i64 rw, .int .i64 rg, .int .i64 rn, .int .i64 nw, .bool ov], .fam 119 (.pair (.int .i64) (.pair (.int .i64) (.pair (.int .i64) .bool))) l f] k =
  ((optK (S.rdel 100000 l f lo len lo len rw rg rn nw ov) fun o2 =>
   k (.tuple []) ([.var [.slice 1 1 o2.1 o2.2.1 Option.none, .int .i64 o2.2.2.2.2.2.2.1, .int .i64 o2.2.2.2.2.2.2.2.1, .int .i64 o2.2.2.2.2.2.2.2.2.1, .int .i64 o2.2.2.2.2.2.2.2.2.2.1, .bool o2.2.2.2.2.2.2.2.2.2.2], .fam 119 (Cd.pair (Cd.int .i64) (Cd.pair (Cd.int .i64) (Cd.pair (Cd.int .i64) Cd.bool))) o2.2.2.1 o2.2.2.2.1]))) := by kernel_rfl
noncomputable def S.rgo (l : FL) (f : BL) (lo len : Nat) (rw rg rn nw : Int) (ov : Bool) : Option (Nat × Nat × Int × Int × Int × Int × Bool × List (Option Nat) × List (Int × Int × Int × Bool)) :=
  (optK (S.rdel 100000 l f lo len lo len rw rg rn nw ov) fun o2 =>
   some (o2.1, o2.2.1, o2.2.2.2.2.2.2.1, o2.2.2.2.2.2.2.2.1, o2.2.2.2.2.2.2.2.2.1, o2.2.2.2.2.2.2.2.2.2.1, o2.2.2.2.2.2.2.2.2.2.2, o2.2.2.1, o2.2.2.2.1))
noncomputable def S.rgo_gk {R : Type} (l : FL) (f : BL) (lo len : Nat) (rw rg rn nw : Int) (ov : Bool) (k : AVal → List Blk → Option R) : (Nat × Nat × Int × Int × Int × Int × Bool × List (Option Nat) × List (Int × Int × Int × Bool)) → Option R := (fun v : Nat × Nat × Int × Int × Int × Int × Bool × List (Option Nat) × List (Int × Int × Int × Bool) => k (.tuple []) [(.var [(.slice 1 1 v.1 v.2.1 none), (.int .i64 v.2.2.1), (.int .i64 v.2.2.2.1), (.int .i64 v.2.2.2.2.1), (.int .i64 v.2.2.2.2.2.1), (.bool v.2.2.2.2.2.2.1)]), (.fam 119 (Cd.pair (Cd.int .i64) (Cd.pair (Cd.int .i64) (Cd.pair (Cd.int .i64) Cd.bool))) v.2.2.2.2.2.2.2.1 v.2.2.2.2.2.2.2.2)])
theorem S.rgo_v {R : Type} (l : FL) (f : BL) (lo len : Nat) (rw rg rn nw : Int) (ov : Bool) (k : AVal → List Blk → Option R) : fnEval tis F82 0 G72 Try.f82 [.ptr 0 0 0] [.var [.slice 1 1 lo len none, .int .i64 rw, .int .i64 rg, .int .i64 rn, .int .i64 nw, .bool ov], .fam 119 (.pair (.int .i64) (.pair (.int .i64) (.pair (.int .i64) .bool))) l f] k = oK (fun v : Nat × Nat × Int × Int × Int × Int × Bool × List (Option Nat) × List (Int × Int × Int × Bool) => k (.tuple []) [(.var [(.slice 1 1 v.1 v.2.1 none), (.int .i64 v.2.2.1), (.int .i64 v.2.2.2.1), (.int .i64 v.2.2.2.2.1), (.int .i64 v.2.2.2.2.2.1), (.bool v.2.2.2.2.2.2.1)]), (.fam 119 (Cd.pair (Cd.int .i64) (Cd.pair (Cd.int .i64) (Cd.pair (Cd.int .i64) Cd.bool))) v.2.2.2.2.2.2.2.1 v.2.2.2.2.2.2.2.2)]) (S.rgo l f lo len rw rg rn nw ov) :=
  (S.rgo_k l f lo len rw rg rn nw ov k).trans (opt_lift fun o2 => rfl)
theorem S.rgo1_k {R : Type} (rw rg rn nw : Int) (ov : Bool) (k : AVal → List Blk → Option R) : fnEval tis F82 0 G72 Try.f82 [.ptr 0 0 0] [.var [.nils, .int .i64 rw, .int .i64 rg, .int .i64 rn, .int .i64 nw, .bool ov]] k =
  (k (.tuple []) ([.var [.nils, .int .i64 rw, .int .i64 rg, .int .i64 rn, .int .i64 nw, .bool ov]])) := by kernel_rfl
noncomputable def S.rgo1 (rw rg rn nw : Int) (ov : Bool) : Int × Int × Int × Int × Bool :=
  (rw, rg, rn, nw, ov)
theorem S.rgo1_v {R : Type} (rw rg rn nw : Int) (ov : Bool) (k : AVal → List Blk → Option R) : fnEval tis F82 0 G72 Try.f82 [.ptr 0 0 0] [.var [.nils, .int .i64 rw, .int .i64 rg, .int .i64 rn, .int .i64 nw, .bool ov]] k = k (.tuple []) [(.var [.nils, (.int .i64 (S.rgo1 rw rg rn nw ov).1), (.int .i64 (S.rgo1 rw rg rn nw ov).2.1), (.int .i64 (S.rgo1 rw rg rn nw ov).2.2.1), (.int .i64 (S.rgo1 rw rg rn nw ov).2.2.2.1), (.bool (S.rgo1 rw rg rn nw ov).2.2.2.2)])] :=
  (S.rgo1_k rw rg rn nw ov k).trans rfl
noncomputable def H82 : Hnd := fun R args σ k => match args, σ with
  | [.ptr 0 0 0], [.var [.slice 1 1 lo len none, .int .i64 rw, .int .i64 rg, .int .i64 rn, .int .i64 nw, .bool ov], .fam 119 (.pair (.int .i64) (.pair (.int .i64) (.pair (.int .i64) .bool))) l f] => oK (fun v : Nat × Nat × Int × Int × Int × Int × Bool × List (Option Nat) × List (Int × Int × Int × Bool) => k (.tuple []) [(.var [(.slice 1 1 v.1 v.2.1 none), (.int .i64 v.2.2.1), (.int .i64 v.2.2.2.1), (.int .i64 v.2.2.2.2.1), (.int .i64 v.2.2.2.2.2.1), (.bool v.2.2.2.2.2.2.1)]), (.fam 119 (Cd.pair (Cd.int .i64) (Cd.pair (Cd.int .i64) (Cd.pair (Cd.int .i64) Cd.bool))) v.2.2.2.2.2.2.2.1 v.2.2.2.2.2.2.2.2)]) (S.rgo l f lo len rw rg rn nw ov)
  | [.ptr 0 0 0], [.var [.nils, .int .i64 rw, .int .i64 rg, .int .i64 rn, .int .i64 nw, .bool ov]] => k (.tuple []) [(.var [.nils, (.int .i64 (S.rgo1 rw rg rn nw ov).1), (.int .i64 (S.rgo1 rw rg rn nw ov).2.1), (.int .i64 (S.rgo1 rw rg rn nw ov).2.2.1), (.int .i64 (S.rgo1 rw rg rn nw ov).2.2.2.1), (.bool (S.rgo1 rw rg rn nw ov).2.2.2.2)])]
  | _, _ => none
theorem H82_ok : HndOk Try.prog 82 H82 := hnd_ok tis tisOk mixOk G72_ok F82 Try.func82 rfl (by
  intro R args σ k r h
  unfold H82 at h
  split at h
  · rename_i lo len rw rg rn nw ov l f; exact ⟨0, (S.rgo_v l f lo len rw rg rn nw ov _).trans h⟩
  · rename_i rw rg rn nw ov; exact ⟨0, (S.rgo1_v rw rg rn nw ov _).trans h⟩
  · cases h)
noncomputable def G82 : Env := Env.add 82 H82 G72
theorem G82_ok : EnvOk Try.prog G82 := envAdd_ok H82_ok G72_ok

/-! (*ring.Ring).Put -/
def F67 : FCfg := ⟨keepAt [(0, [0, 1, 2]), (1, [0, 1, 2, 12]), (2, [6]), (3, [0, 1, 2, 15]), (4, [6]), (5, [0, 2, 7]), (6, [0, 2, 7]), (7, [0, 2, 7]), (8, [0, 2, 7, 53]), (9, [6]), (10, [0, 2, 7, 8]), (11, [0, 2, 7, 8, 61]), (12, [0, 2, 7, 8]), (13, [0, 2, 8]), (14, [2, 9]), (15, [9, 10, 11]), (16, []), (17, [6])], loopAt [], [⟨1, false, 0, [], 0, (.pair (.int .i64) (.pair (.int .i64) (.pair (.int .i64) .bool))), some 119⟩, ⟨2, false, 0, [0], 0, .bool, none⟩]⟩
theorem S.rp_k {R : Type} (l : FL) (f : BL) (lo len : Nat) (rw rg rn nw : Int) (ov : Bool) (t v : Int) (k : AVal → List Blk → Option R) : fnEval tis F67 0 G82 Try.f67 [.ptr 0 0 0, .int .i64 t, .int .i64 v] [.var [.slice 1 1 lo len none, .int .i64 rw, .int .i64 rg, .int .i64 rn, .int .i64 nw, .bool ov], .fam 119 (.pair (.int .i64) (.pair (.int .i64) (.pair (.int .i64) .bool))) l f] k =
  (bif decide (t < 0) then
   k (.int .i64 1) ([.var [.slice 1 2 lo len Option.none, .int .i64 rw, .int .i64 rg, .int .i64 rn, .int .i64 nw, .bool ov], .dead, .fam 119 (Cd.pair (Cd.int .i64) (Cd.pair (Cd.int .i64) (Cd.pair (Cd.int .i64) Cd.bool))) l f])
 else
   bif decide (1099511627776 < t) then
   k (.int .i64 1) ([.var [.slice 1 2 lo len Option.none, .int .i64 rw, .int .i64 rg, .int .i64 rn, .int .i64 nw, .bool ov], .dead, .fam 119 (Cd.pair (Cd.int .i64) (Cd.pair (Cd.int .i64) (Cd.pair (Cd.int .i64) Cd.bool))) l f])
 else
   bif decide (v < 0) then
   k (.int .i64 1) ([.var [.slice 1 2 lo len Option.none, .int .i64 rw, .int .i64 rg, .int .i64 rn, .int .i64 nw, .bool ov], .dead, .fam 119 (Cd.pair (Cd.int .i64) (Cd.pair (Cd.int .i64) (Cd.pair (Cd.int .i64) Cd.bool))) l f])
 else
   bif decide (rg = 0) then
   none
 else
   (optK (S.rgo l f lo len rw rg rn (if Go.IntKind.wrap .i64 (Int.tdiv t rg) > nw then Go.IntKind.wrap .i64 (Int.tdiv t rg) else nw) ov) fun o6 =>
   bif decide (o6.2.2.2.2.1 ≤ Go.IntKind.wrap .i64 (o6.2.2.2.2.2.1 - Go.IntKind.wrap .i64 (Int.tdiv t rg))) then
   k (.int .i64 0) ([.var [.slice 1 2 o6.1 o6.2.1 Option.none, .int .i64 o6.2.2.1, .int .i64 o6.2.2.2.1, .int .i64 o6.2.2.2.2.1, .int .i64 o6.2.2.2.2.2.1, .bool o6.2.2.2.2.2.2.1], .dead, .fam 119 (Cd.pair (Cd.int .i64) (Cd.pair (Cd.int .i64) (Cd.pair (Cd.int .i64) Cd.bool))) o6.2.2.2.2.2.2.2.1 o6.2.2.2.2.2.2.2.2])
 else
   (optK (S.rix2 100000 o6.2.2.2.2.2.2.2.1 o6.2.2.2.2.2.2.2.2 o6.1 o6.2.1 (Go.IntKind.wrap .i64 (Int.tdiv t rg))) fun o8 =>
   bif decide (o8 < 0) then
   bif Nat.beq 1 1 && Nat.blt 0 16 && Nat.beq 1 1 && Nat.beq 1 1 && Nat.beq 1 1 && true && !Nat.beq 1 4 && Nat.ble ((o6.2.1 + 1) * 16) 35184372088832 then
   bif inB (((o6.2.1 : Nat) : Int)) (List.length (cutL o6.2.2.2.2.2.2.2.1 o6.1 o6.2.1 ++ [Option.some (0 + List.length o6.2.2.2.2.2.2.2.2)])) then
   (optK ((cutL o6.2.2.2.2.2.2.2.1 o6.1 o6.2.1 ++ [Option.some (0 + List.length o6.2.2.2.2.2.2.2.2)])[Int.toNat ((o6.2.1 : Nat) : Int) + 0]?) fun o12 =>
   (optK (o12) fun o13 =>
   (optK ((o6.2.2.2.2.2.2.2.2 ++ [(Go.IntKind.wrap .i64 (Int.tdiv t rg), 0, 0, false)])[o13]?) fun o14 =>
   (optK ((o6.2.2.2.2.2.2.2.2 ++ [(Go.IntKind.wrap .i64 (Int.tdiv t rg), 0, 0, false)])[o13]?) fun o15 =>
   (optK ((o6.2.2.2.2.2.2.2.2 ++ [(Go.IntKind.wrap .i64 (Int.tdiv t rg), 0, 0, false)])[o13]?) fun o16 =>
   bif o16.2.2.2 then
   (optK ((o6.2.2.2.2.2.2.2.2 ++ [(Go.IntKind.wrap .i64 (Int.tdiv t rg), 0, 0, false)])[o13]?) fun o18 =>
   (optK ((List.set (o6.2.2.2.2.2.2.2.2 ++ [(Go.IntKind.wrap .i64 (Int.tdiv t rg), 0, 0, false)]) o13 (o18.1, Prod.fst (S.madd o14.2.1 v), o18.2.2.1, o18.2.2.2))[o13]?) fun o19 =>
   (optK ((List.set (List.set (o6.2.2.2.2.2.2.2.2 ++ [(Go.IntKind.wrap .i64 (Int.tdiv t rg), 0, 0, false)]) o13 (o18.1, Prod.fst (S.madd o14.2.1 v), o18.2.2.1, o18.2.2.2)) o13 (o19.1, o19.2.1, Go.IntKind.wrap .i64 (o15.2.2.1 + 1), o19.2.2.2))[o13]?) fun o20 =>
   k (.int .i64 0) ([.var [.slice 1 2 0 (List.length (cutL o6.2.2.2.2.2.2.2.1 o6.1 o6.2.1 ++ [Option.some (0 + List.length o6.2.2.2.2.2.2.2.2)])) Option.none, .int .i64 o6.2.2.1, .int .i64 o6.2.2.2.1, .int .i64 o6.2.2.2.2.1, .int .i64 o6.2.2.2.2.2.1, .bool o6.2.2.2.2.2.2.1], .dead, .fam 119 (Cd.pair (Cd.int .i64) (Cd.pair (Cd.int .i64) (Cd.pair (Cd.int .i64) Cd.bool))) (cutL o6.2.2.2.2.2.2.2.1 o6.1 o6.2.1 ++ [Option.some (0 + List.length o6.2.2.2.2.2.2.2.2)]) (List.set (List.set (List.set (o6.2.2.2.2.2.2.2.2 ++ [(Go.IntKind.wrap .i64 (Int.tdiv t rg), 0, 0, false)]) o13 (o18.1, Prod.fst (S.madd o14.2.1 v), o18.2.2.1, o18.2.2.2)) o13 (o19.1, o19.2.1, Go.IntKind.wrap .i64 (o15.2.2.1 + 1), o19.2.2.2)) o13 (o20.1, o20.2.1, o20.2.2.1, true))]))))
 else
   (optK ((o6.2.2.2.2.2.2.2.2 ++ [(Go.IntKind.wrap .i64 (Int.tdiv t rg), 0, 0, false)])[o13]?) fun o18 =>
   (optK ((List.set (o6.2.2.2.2.2.2.2.2 ++ [(Go.IntKind.wrap .i64 (Int.tdiv t rg), 0, 0, false)]) o13 (o18.1, Prod.fst (S.madd o14.2.1 v), o18.2.2.1, o18.2.2.2))[o13]?) fun o19 =>
   (optK ((List.set (List.set (o6.2.2.2.2.2.2.2.2 ++ [(Go.IntKind.wrap .i64 (Int.tdiv t rg), 0, 0, false)]) o13 (o18.1, Prod.fst (S.madd o14.2.1 v), o18.2.2.1, o18.2.2.2)) o13 (o19.1, o19.2.1, Go.IntKind.wrap .i64 (o15.2.2.1 + 1), o19.2.2.2))[o13]?) fun o20 =>
   k (.int .i64 0) ([.var [.slice 1 2 0 (List.length (cutL o6.2.2.2.2.2.2.2.1 o6.1 o6.2.1 ++ [Option.some (0 + List.length o6.2.2.2.2.2.2.2.2)])) Option.none, .int .i64 o6.2.2.1, .int .i64 o6.2.2.2.1, .int .i64 o6.2.2.2.2.1, .int .i64 o6.2.2.2.2.2.1, .bool o6.2.2.2.2.2.2.1], .dead, .fam 119 (Cd.pair (Cd.int .i64) (Cd.pair (Cd.int .i64) (Cd.pair (Cd.int .i64) Cd.bool))) (cutL o6.2.2.2.2.2.2.2.1 o6.1 o6.2.1 ++ [Option.some (0 + List.length o6.2.2.2.2.2.2.2.2)]) (List.set (List.set (List.set (o6.2.2.2.2.2.2.2.2 ++ [(Go.IntKind.wrap .i64 (Int.tdiv t rg), 0, 0, false)]) o13 (o18.1, Prod.fst (S.madd o14.2.1 v), o18.2.2.1, o18.2.2.2)) o13 (o19.1, o19.2.1, Go.IntKind.wrap .i64 (o15.2.2.1 + 1), o19.2.2.2)) o13 (o20.1, o20.2.1, o20.2.2.1, !decide (Prod.snd (S.madd o14.2.1 v) = 0)))])))))))))
 else
   none
 else
   none
 else
   bif inB o8 o6.2.1 then
   (optK (o6.2.2.2.2.2.2.2.1[Int.toNat o8 + o6.1]?) fun o11 =>
   (optK (o11) fun o12 =>
   (optK (o6.2.2.2.2.2.2.2.2[o12]?) fun o13 =>
   (optK (o6.2.2.2.2.2.2.2.2[o12]?) fun o14 =>
   (optK (o6.2.2.2.2.2.2.2.2[o12]?) fun o15 =>
   bif o15.2.2.2 then
   (optK (o6.2.2.2.2.2.2.2.2[o12]?) fun o17 =>
   (optK ((List.set o6.2.2.2.2.2.2.2.2 o12 (o17.1, Prod.fst (S.madd o13.2.1 v), o17.2.2.1, o17.2.2.2))[o12]?) fun o18 =>
   (optK ((List.set (List.set o6.2.2.2.2.2.2.2.2 o12 (o17.1, Prod.fst (S.madd o13.2.1 v), o17.2.2.1, o17.2.2.2)) o12 (o18.1, o18.2.1, Go.IntKind.wrap .i64 (o14.2.2.1 + 1), o18.2.2.2))[o12]?) fun o19 =>
   k (.int .i64 0) ([.var [.slice 1 2 o6.1 o6.2.1 Option.none, .int .i64 o6.2.2.1, .int .i64 o6.2.2.2.1, .int .i64 o6.2.2.2.2.1, .int .i64 o6.2.2.2.2.2.1, .bool o6.2.2.2.2.2.2.1], .dead, .fam 119 (Cd.pair (Cd.int .i64) (Cd.pair (Cd.int .i64) (Cd.pair (Cd.int .i64) Cd.bool))) o6.2.2.2.2.2.2.2.1 (List.set (List.set (List.set o6.2.2.2.2.2.2.2.2 o12 (o17.1, Prod.fst (S.madd o13.2.1 v), o17.2.2.1, o17.2.2.2)) o12 (o18.1, o18.2.1, Go.IntKind.wrap .i64 (o14.2.2.1 + 1), o18.2.2.2)) o12 (o19.1, o19.2.1, o19.2.2.1, true))]))))
 else
   (optK (o6.2.2.2.2.2.2.2.2[o12]?) fun o17 =>
   (optK ((List.set o6.2.2.2.2.2.2.2.2 o12 (o17.1, Prod.fst (S.madd o13.2.1 v), o17.2.2.1, o17.2.2.2))[o12]?) fun o18 =>
   (optK ((List.set (List.set o6.2.2.2.2.2.2.2.2 o12 (o17.1, Prod.fst (S.madd o13.2.1 v), o17.2.2.1, o17.2.2.2)) o12 (o18.1, o18.2.1, Go.IntKind.wrap .i64 (o14.2.2.1 + 1), o18.2.2.2))[o12]?) fun o19 =>
   k (.int .i64 0) ([.var [.slice 1 2 o6.1 o6.2.1 Option.none, .int .i64 o6.2.2.1, .int .i64 o6.2.2.2.1, .int .i64 o6.2.2.2.2.1, .int .i64 o6.2.2.2.2.2.1, .bool o6.2.2.2.2.2.2.1], .dead, .fam 119 (Cd.pair (Cd.int .i64) (Cd.pair (Cd.int .i64) (Cd.pair (Cd.int .i64) Cd.bool))) o6.2.2.2.2.2.2.2.1 (List.set (List.set (List.set o6.2.2.2.2.2.2.2.2 o12 (o17.1, Prod.fst (S.madd o13.2.1 v), o17.2.2.1, o17.2.2.2)) o12 (o18.1, o18.2.1, Go.IntKind.wrap .i64 (o14.2.2.1 + 1), o18.2.2.2)) o12 (o19.1, o19.2.1, o19.2.2.1, !decide (Prod.snd (S.madd o13.2.1 v) = 0)))])))))))))
 else
   none))) := by kernel_rfl
noncomputable def S.rp (l : FL) (f : BL) (lo len : Nat) (rw rg rn nw : Int) (ov : Bool) (t v : Int) : Option (Int × Nat × Nat × Int × Int × Int × Int × Bool × List (Option Nat) × BL) :=
  bif decide (t < 0) then
   some (1, lo, len, rw, rg, rn, nw, ov, l, f)
 else
   bif decide (1099511627776 < t) then
   some (1, lo, len, rw, rg, rn, nw, ov, l, f)
 else
   bif decide (v < 0) then
   some (1, lo, len, rw, rg, rn, nw, ov, l, f)
 else
   bif decide (rg = 0) then
   none
 else
   (optK (S.rgo l f lo len rw rg rn (if Go.IntKind.wrap .i64 (Int.tdiv t rg) > nw then Go.IntKind.wrap .i64 (Int.tdiv t rg) else nw) ov) fun o6 =>
   bif decide (o6.2.2.2.2.1 ≤ Go.IntKind.wrap .i64 (o6.2.2.2.2.2.1 - Go.IntKind.wrap .i64 (Int.tdiv t rg))) then
   some (0, o6.1, o6.2.1, o6.2.2.1, o6.2.2.2.1, o6.2.2.2.2.1, o6.2.2.2.2.2.1, o6.2.2.2.2.2.2.1, o6.2.2.2.2.2.2.2.1, o6.2.2.2.2.2.2.2.2)
 else
   (optK (S.rix2 100000 o6.2.2.2.2.2.2.2.1 o6.2.2.2.2.2.2.2.2 o6.1 o6.2.1 (Go.IntKind.wrap .i64 (Int.tdiv t rg))) fun o8 =>
   bif decide (o8 < 0) then
   bif Nat.beq 1 1 && Nat.blt 0 16 && Nat.beq 1 1 && Nat.beq 1 1 && Nat.beq 1 1 && true && !Nat.beq 1 4 && Nat.ble ((o6.2.1 + 1) * 16) 35184372088832 then
   bif inB (((o6.2.1 : Nat) : Int)) (List.length (cutL o6.2.2.2.2.2.2.2.1 o6.1 o6.2.1 ++ [Option.some (0 + List.length o6.2.2.2.2.2.2.2.2)])) then
   (optK ((cutL o6.2.2.2.2.2.2.2.1 o6.1 o6.2.1 ++ [Option.some (0 + List.length o6.2.2.2.2.2.2.2.2)])[Int.toNat ((o6.2.1 : Nat) : Int) + 0]?) fun o12 =>
   (optK (o12) fun o13 =>
   (optK ((o6.2.2.2.2.2.2.2.2 ++ [(Go.IntKind.wrap .i64 (Int.tdiv t rg), 0, 0, false)])[o13]?) fun o14 =>
   (optK ((o6.2.2.2.2.2.2.2.2 ++ [(Go.IntKind.wrap .i64 (Int.tdiv t rg), 0, 0, false)])[o13]?) fun o15 =>
   (optK ((o6.2.2.2.2.2.2.2.2 ++ [(Go.IntKind.wrap .i64 (Int.tdiv t rg), 0, 0, false)])[o13]?) fun o16 =>
   bif o16.2.2.2 then
   (optK ((o6.2.2.2.2.2.2.2.2 ++ [(Go.IntKind.wrap .i64 (Int.tdiv t rg), 0, 0, false)])[o13]?) fun o18 =>
   (optK ((List.set (o6.2.2.2.2.2.2.2.2 ++ [(Go.IntKind.wrap .i64 (Int.tdiv t rg), 0, 0, false)]) o13 (o18.1, Prod.fst (S.madd o14.2.1 v), o18.2.2.1, o18.2.2.2))[o13]?) fun o19 =>
   (optK ((List.set (List.set (o6.2.2.2.2.2.2.2.2 ++ [(Go.IntKind.wrap .i64 (Int.tdiv t rg), 0, 0, false)]) o13 (o18.1, Prod.fst (S.madd o14.2.1 v), o18.2.2.1, o18.2.2.2)) o13 (o19.1, o19.2.1, Go.IntKind.wrap .i64 (o15.2.2.1 + 1), o19.2.2.2))[o13]?) fun o20 =>
   some (0, 0, List.length (cutL o6.2.2.2.2.2.2.2.1 o6.1 o6.2.1 ++ [Option.some (0 + List.length o6.2.2.2.2.2.2.2.2)]), o6.2.2.1, o6.2.2.2.1, o6.2.2.2.2.1, o6.2.2.2.2.2.1, o6.2.2.2.2.2.2.1, cutL o6.2.2.2.2.2.2.2.1 o6.1 o6.2.1 ++ [Option.some (0 + List.length o6.2.2.2.2.2.2.2.2)], List.set (List.set (List.set (o6.2.2.2.2.2.2.2.2 ++ [(Go.IntKind.wrap .i64 (Int.tdiv t rg), 0, 0, false)]) o13 (o18.1, Prod.fst (S.madd o14.2.1 v), o18.2.2.1, o18.2.2.2)) o13 (o19.1, o19.2.1, Go.IntKind.wrap .i64 (o15.2.2.1 + 1), o19.2.2.2)) o13 (o20.1, o20.2.1, o20.2.2.1, true)))))
 else
   (optK ((o6.2.2.2.2.2.2.2.2 ++ [(Go.IntKind.wrap .i64 (Int.tdiv t rg), 0, 0, false)])[o13]?) fun o18 =>
   (optK ((List.set (o6.2.2.2.2.2.2.2.2 ++ [(Go.IntKind.wrap .i64 (Int.tdiv t rg), 0, 0, false)]) o13 (o18.1, Prod.fst (S.madd o14.2.1 v), o18.2.2.1, o18.2.2.2))[o13]?) fun o19 =>
   (optK ((List.set (List.set (o6.2.2.2.2.2.2.2.2 ++ [(Go.IntKind.wrap .i64 (Int.tdiv t rg), 0, 0, false)]) o13 (o18.1, Prod.fst (S.madd o14.2.1 v), o18.2.2.1, o18.2.2.2)) o13 (o19.1, o19.2.1, Go.IntKind.wrap .i64 (o15.2.2.1 + 1), o19.2.2.2))[o13]?) fun o20 =>
   some (0, 0, List.length (cutL o6.2.2.2.2.2.2.2.1 o6.1 o6.2.1 ++ [Option.some (0 + List.length o6.2.2.2.2.2.2.2.2)]), o6.2.2.1, o6.2.2.2.1, o6.2.2.2.2.1, o6.2.2.2.2.2.1, o6.2.2.2.2.2.2.1, cutL o6.2.2.2.2.2.2.2.1 o6.1 o6.2.1 ++ [Option.some (0 + List.length o6.2.2.2.2.2.2.2.2)], List.set (List.set (List.set (o6.2.2.2.2.2.2.2.2 ++ [(Go.IntKind.wrap .i64 (Int.tdiv t rg), 0, 0, false)]) o13 (o18.1, Prod.fst (S.madd o14.2.1 v), o18.2.2.1, o18.2.2.2)) o13 (o19.1, o19.2.1, Go.IntKind.wrap .i64 (o15.2.2.1 + 1), o19.2.2.2)) o13 (o20.1, o20.2.1, o20.2.2.1, !decide (Prod.snd (S.madd o14.2.1 v) = 0)))))))))))
 else
   none
 else
   none
 else
   bif inB o8 o6.2.1 then
   (optK (o6.2.2.2.2.2.2.2.1[Int.toNat o8 + o6.1]?) fun o11 =>
   (optK (o11) fun o12 =>
   (optK (o6.2.2.2.2.2.2.2.2[o12]?) fun o13 =>
   (optK (o6.2.2.2.2.2.2.2.2[o12]?) fun o14 =>
   (optK (o6.2.2.2.2.2.2.2.2[o12]?) fun o15 =>
   bif o15.2.2.2 then
   (optK (o6.2.2.2.2.2.2.2.2[o12]?) fun o17 =>
   (optK ((List.set o6.2.2.2.2.2.2.2.2 o12 (o17.1, Prod.fst (S.madd o13.2.1 v), o17.2.2.1, o17.2.2.2))[o12]?) fun o18 =>
   (optK ((List.set (List.set o6.2.2.2.2.2.2.2.2 o12 (o17.1, Prod.fst (S.madd o13.2.1 v), o17.2.2.1, o17.2.2.2)) o12 (o18.1, o18.2.1, Go.IntKind.wrap .i64 (o14.2.2.1 + 1), o18.2.2.2))[o12]?) fun o19 =>
   some (0, o6.1, o6.2.1, o6.2.2.1, o6.2.2.2.1, o6.2.2.2.2.1, o6.2.2.2.2.2.1, o6.2.2.2.2.2.2.1, o6.2.2.2.2.2.2.2.1, List.set (List.set (List.set o6.2.2.2.2.2.2.2.2 o12 (o17.1, Prod.fst (S.madd o13.2.1 v), o17.2.2.1, o17.2.2.2)) o12 (o18.1, o18.2.1, Go.IntKind.wrap .i64 (o14.2.2.1 + 1), o18.2.2.2)) o12 (o19.1, o19.2.1, o19.2.2.1, true)))))
 else
   (optK (o6.2.2.2.2.2.2.2.2[o12]?) fun o17 =>
   (optK ((List.set o6.2.2.2.2.2.2.2.2 o12 (o17.1, Prod.fst (S.madd o13.2.1 v), o17.2.2.1, o17.2.2.2))[o12]?) fun o18 =>
   (optK ((List.set (List.set o6.2.2.2.2.2.2.2.2 o12 (o17.1, Prod.fst (S.madd o13.2.1 v), o17.2.2.1, o17.2.2.2)) o12 (o18.1, o18.2.1, Go.IntKind.wrap .i64 (o14.2.2.1 + 1), o18.2.2.2))[o12]?) fun o19 =>
   some (0, o6.1, o6.2.1, o6.2.2.1, o6.2.2.2.1, o6.2.2.2.2.1, o6.2.2.2.2.2.1, o6.2.2.2.2.2.2.1, o6.2.2.2.2.2.2.2.1, List.set (List.set (List.set o6.2.2.2.2.2.2.2.2 o12 (o17.1, Prod.fst (S.madd o13.2.1 v), o17.2.2.1, o17.2.2.2)) o12 (o18.1, o18.2.1, Go.IntKind.wrap .i64 (o14.2.2.1 + 1), o18.2.2.2)) o12 (o19.1, o19.2.1, o19.2.2.1, !decide (Prod.snd (S.madd o13.2.1 v) = 0)))))))))))
 else
   none))
noncomputable def S.rp_gk {R : Type} (l : FL) (f : BL) (lo len : Nat) (rw rg rn nw : Int) (ov : Bool) (t v : Int) (k : AVal → List Blk → Option R) : (Int × Nat × Nat × Int × Int × Int × Int × Bool × List (Option Nat) × BL) → Option R := (fun v : Int × Nat × Nat × Int × Int × Int × Int × Bool × List (Option Nat) × BL => k (.int .i64 v.1) [(.var [(.slice 1 2 v.2.1 v.2.2.1 none), (.int .i64 v.2.2.2.1), (.int .i64 v.2.2.2.2.1), (.int .i64 v.2.2.2.2.2.1), (.int .i64 v.2.2.2.2.2.2.1), (.bool v.2.2.2.2.2.2.2.1)]), .dead, (.fam 119 (Cd.pair (Cd.int .i64) (Cd.pair (Cd.int .i64) (Cd.pair (Cd.int .i64) Cd.bool))) v.2.2.2.2.2.2.2.2.1 v.2.2.2.2.2.2.2.2.2)])
theorem S.rp_v {R : Type} (l : FL) (f : BL) (lo len : Nat) (rw rg rn nw : Int) (ov : Bool) (t v : Int) (k : AVal → List Blk → Option R) : fnEval tis F67 0 G82 Try.f67 [.ptr 0 0 0, .int .i64 t, .int .i64 v] [.var [.slice 1 1 lo len none, .int .i64 rw, .int .i64 rg, .int .i64 rn, .int .i64 nw, .bool ov], .fam 119 (.pair (.int .i64) (.pair (.int .i64) (.pair (.int .i64) .bool))) l f] k = oK (fun v : Int × Nat × Nat × Int × Int × Int × Int × Bool × List (Option Nat) × BL => k (.int .i64 v.1) [(.var [(.slice 1 2 v.2.1 v.2.2.1 none), (.int .i64 v.2.2.2.1), (.int .i64 v.2.2.2.2.1), (.int .i64 v.2.2.2.2.2.1), (.int .i64 v.2.2.2.2.2.2.1), (.bool v.2.2.2.2.2.2.2.1)]), .dead, (.fam 119 (Cd.pair (Cd.int .i64) (Cd.pair (Cd.int .i64) (Cd.pair (Cd.int .i64) Cd.bool))) v.2.2.2.2.2.2.2.2.1 v.2.2.2.2.2.2.2.2.2)]) (S.rp l f lo len rw rg rn nw ov t v) :=
  (S.rp_k l f lo len rw rg rn nw ov t v k).trans (bif_lift (f := (oK (S.rp_gk l f lo len rw rg rn nw ov t v k))) rfl (bif_lift (f := (oK (S.rp_gk l f lo len rw rg rn nw ov t v k))) rfl (bif_lift (f := (oK (S.rp_gk l f lo len rw rg rn nw ov t v k))) rfl (bif_lift (f := (oK (S.rp_gk l f lo len rw rg rn nw ov t v k))) rfl (opt_lift fun o6 => (bif_lift (f := (oK (S.rp_gk l f lo len rw rg rn nw ov t v k))) rfl (opt_lift fun o8 => (bif_lift (f := (oK (S.rp_gk l f lo len rw rg rn nw ov t v k))) (bif_lift (f := (oK (S.rp_gk l f lo len rw rg rn nw ov t v k))) (bif_lift (f := (oK (S.rp_gk l f lo len rw rg rn nw ov t v k))) (opt_lift fun o12 => (opt_lift fun o13 => (opt_lift fun o14 => (opt_lift fun o15 => (opt_lift fun o16 => (bif_lift (f := (oK (S.rp_gk l f lo len rw rg rn nw ov t v k))) (opt_lift fun o18 => (opt_lift fun o19 => (opt_lift fun o20 => rfl))) (opt_lift fun o18 => (opt_lift fun o19 => (opt_lift fun o20 => rfl))))))))) rfl) rfl) (bif_lift (f := (oK (S.rp_gk l f lo len rw rg rn nw ov t v k))) (opt_lift fun o11 => (opt_lift fun o12 => (opt_lift fun o13 => (opt_lift fun o14 => (opt_lift fun o15 => (bif_lift (f := (oK (S.rp_gk l f lo len rw rg rn nw ov t v k))) (opt_lift fun o17 => (opt_lift fun o18 => (opt_lift fun o19 => rfl))) (opt_lift fun o17 => (opt_lift fun o18 => (opt_lift fun o19 => rfl))))))))) rfl)))))))))
theorem S.rp1_k {R : Type} (rw rg rn nw : Int) (ov : Bool) (t v : Int) (k : AVal → List Blk → Option R) : fnEval tis F67 0 G82 Try.f67 [.ptr 0 0 0, .int .i64 t, .int .i64 v] [.var [.nils, .int .i64 rw, .int .i64 rg, .int .i64 rn, .int .i64 nw, .bool ov]] k =
  (bif decide (t < 0) then
   k (.int .i64 1) ([.var [.slice 1 1 0 0 Option.none, .int .i64 rw, .int .i64 rg, .int .i64 rn, .int .i64 nw, .bool ov], .fam 119 (Cd.pair (Cd.int .i64) (Cd.pair (Cd.int .i64) (Cd.pair (Cd.int .i64) Cd.bool))) [] []])
 else
   bif decide (1099511627776 < t) then
   k (.int .i64 1) ([.var [.slice 1 1 0 0 Option.none, .int .i64 rw, .int .i64 rg, .int .i64 rn, .int .i64 nw, .bool ov], .fam 119 (Cd.pair (Cd.int .i64) (Cd.pair (Cd.int .i64) (Cd.pair (Cd.int .i64) Cd.bool))) [] []])
 else
   bif decide (v < 0) then
   k (.int .i64 1) ([.var [.slice 1 1 0 0 Option.none, .int .i64 rw, .int .i64 rg, .int .i64 rn, .int .i64 nw, .bool ov], .fam 119 (Cd.pair (Cd.int .i64) (Cd.pair (Cd.int .i64) (Cd.pair (Cd.int .i64) Cd.bool))) [] []])
 else
   bif decide (rg = 0) then
   none
 else
   bif decide (Prod.fst (Prod.snd (Prod.snd (S.rgo1 rw rg rn (if Go.IntKind.wrap .i64 (Int.tdiv t rg) > nw then Go.IntKind.wrap .i64 (Int.tdiv t rg) else nw) ov))) ≤ Go.IntKind.wrap .i64 (Prod.fst (Prod.snd (Prod.snd (Prod.snd (S.rgo1 rw rg rn (if Go.IntKind.wrap .i64 (Int.tdiv t rg) > nw then Go.IntKind.wrap .i64 (Int.tdiv t rg) else nw) ov)))) - Go.IntKind.wrap .i64 (Int.tdiv t rg))) then
   k (.int .i64 0) ([.var [.slice 1 1 0 0 Option.none, .int .i64 (Prod.fst (S.rgo1 rw rg rn (if Go.IntKind.wrap .i64 (Int.tdiv t rg) > nw then Go.IntKind.wrap .i64 (Int.tdiv t rg) else nw) ov)), .int .i64 (Prod.fst (Prod.snd (S.rgo1 rw rg rn (if Go.IntKind.wrap .i64 (Int.tdiv t rg) > nw then Go.IntKind.wrap .i64 (Int.tdiv t rg) else nw) ov))), .int .i64 (Prod.fst (Prod.snd (Prod.snd (S.rgo1 rw rg rn (if Go.IntKind.wrap .i64 (Int.tdiv t rg) > nw then Go.IntKind.wrap .i64 (Int.tdiv t rg) else nw) ov)))), .int .i64 (Prod.fst (Prod.snd (Prod.snd (Prod.snd (S.rgo1 rw rg rn (if Go.IntKind.wrap .i64 (Int.tdiv t rg) > nw then Go.IntKind.wrap .i64 (Int.tdiv t rg) else nw) ov))))), .bool (Prod.snd (Prod.snd (Prod.snd (Prod.snd (S.rgo1 rw rg rn (if Go.IntKind.wrap .i64 (Int.tdiv t rg) > nw then Go.IntKind.wrap .i64 (Int.tdiv t rg) else nw) ov)))))], .fam 119 (Cd.pair (Cd.int .i64) (Cd.pair (Cd.int .i64) (Cd.pair (Cd.int .i64) Cd.bool))) [] []])
 else
   k (.int .i64 0) ([.var [.slice 1 1 0 1 Option.none, .int .i64 (Prod.fst (S.rgo1 rw rg rn (if Go.IntKind.wrap .i64 (Int.tdiv t rg) > nw then Go.IntKind.wrap .i64 (Int.tdiv t rg) else nw) ov)), .int .i64 (Prod.fst (Prod.snd (S.rgo1 rw rg rn (if Go.IntKind.wrap .i64 (Int.tdiv t rg) > nw then Go.IntKind.wrap .i64 (Int.tdiv t rg) else nw) ov))), .int .i64 (Prod.fst (Prod.snd (Prod.snd (S.rgo1 rw rg rn (if Go.IntKind.wrap .i64 (Int.tdiv t rg) > nw then Go.IntKind.wrap .i64 (Int.tdiv t rg) else nw) ov)))), .int .i64 (Prod.fst (Prod.snd (Prod.snd (Prod.snd (S.rgo1 rw rg rn (if Go.IntKind.wrap .i64 (Int.tdiv t rg) > nw then Go.IntKind.wrap .i64 (Int.tdiv t rg) else nw) ov))))), .bool (Prod.snd (Prod.snd (Prod.snd (Prod.snd (S.rgo1 rw rg rn (if Go.IntKind.wrap .i64 (Int.tdiv t rg) > nw then Go.IntKind.wrap .i64 (Int.tdiv t rg) else nw) ov)))))], .fam 119 (Cd.pair (Cd.int .i64) (Cd.pair (Cd.int .i64) (Cd.pair (Cd.int .i64) Cd.bool))) (cutL [Option.some 0] 0 1) (List.set (List.set (List.set [(Go.IntKind.wrap .i64 (Int.tdiv t rg), 0, 0, false)] 0 (Go.IntKind.wrap .i64 (Int.tdiv t rg), Prod.fst (S.madd 0 v), 0, false)) 0 (Go.IntKind.wrap .i64 (Int.tdiv t rg), Prod.fst (S.madd 0 v), Go.IntKind.wrap .i64 (0 + 1), false)) 0 (Go.IntKind.wrap .i64 (Int.tdiv t rg), Prod.fst (S.madd 0 v), Go.IntKind.wrap .i64 (0 + 1), !decide (Prod.snd (S.madd 0 v) = 0)))])) := by kernel_rfl
noncomputable def S.rp1 (rw rg rn nw : Int) (ov : Bool) (t v : Int) : Option (Int × Nat × Int × Int × Int × Int × Bool × List (Option Nat) × List (Int × Int × Int × Bool)) :=
  bif decide (t < 0) then
   some (1, 0, rw, rg, rn, nw, ov, [], [])
 else
   bif decide (1099511627776 < t) then
   some (1, 0, rw, rg, rn, nw, ov, [], [])
 else
   bif decide (v < 0) then
   some (1, 0, rw, rg, rn, nw, ov, [], [])
 else
   bif decide (rg = 0) then
   none
 else
   bif decide (Prod.fst (Prod.snd (Prod.snd (S.rgo1 rw rg rn (if Go.IntKind.wrap .i64 (Int.tdiv t rg) > nw then Go.IntKind.wrap .i64 (Int.tdiv t rg) else nw) ov))) ≤ Go.IntKind.wrap .i64 (Prod.fst (Prod.snd (Prod.snd (Prod.snd (S.rgo1 rw rg rn (if Go.IntKind.wrap .i64 (Int.tdiv t rg) > nw then Go.IntKind.wrap .i64 (Int.tdiv t rg) else nw) ov)))) - Go.IntKind.wrap .i64 (Int.tdiv t rg))) then
   some (0, 0, Prod.fst (S.rgo1 rw rg rn (if Go.IntKind.wrap .i64 (Int.tdiv t rg) > nw then Go.IntKind.wrap .i64 (Int.tdiv t rg) else nw) ov), Prod.fst (Prod.snd (S.rgo1 rw rg rn (if Go.IntKind.wrap .i64 (Int.tdiv t rg) > nw then Go.IntKind.wrap .i64 (Int.tdiv t rg) else nw) ov)), Prod.fst (Prod.snd (Prod.snd (S.rgo1 rw rg rn (if Go.IntKind.wrap .i64 (Int.tdiv t rg) > nw then Go.IntKind.wrap .i64 (Int.tdiv t rg) else nw) ov))), Prod.fst (Prod.snd (Prod.snd (Prod.snd (S.rgo1 rw rg rn (if Go.IntKind.wrap .i64 (Int.tdiv t rg) > nw then Go.IntKind.wrap .i64 (Int.tdiv t rg) else nw) ov)))), Prod.snd (Prod.snd (Prod.snd (Prod.snd (S.rgo1 rw rg rn (if Go.IntKind.wrap .i64 (Int.tdiv t rg) > nw then Go.IntKind.wrap .i64 (Int.tdiv t rg) else nw) ov)))), [], [])
 else
   some (0, 1, Prod.fst (S.rgo1 rw rg rn (if Go.IntKind.wrap .i64 (Int.tdiv t rg) > nw then Go.IntKind.wrap .i64 (Int.tdiv t rg) else nw) ov), Prod.fst (Prod.snd (S.rgo1 rw rg rn (if Go.IntKind.wrap .i64 (Int.tdiv t rg) > nw then Go.IntKind.wrap .i64 (Int.tdiv t rg) else nw) ov)), Prod.fst (Prod.snd (Prod.snd (S.rgo1 rw rg rn (if Go.IntKind.wrap .i64 (Int.tdiv t rg) > nw then Go.IntKind.wrap .i64 (Int.tdiv t rg) else nw) ov))), Prod.fst (Prod.snd (Prod.snd (Prod.snd (S.rgo1 rw rg rn (if Go.IntKind.wrap .i64 (Int.tdiv t rg) > nw then Go.IntKind.wrap .i64 (Int.tdiv t rg) else nw) ov)))), Prod.snd (Prod.snd (Prod.snd (Prod.snd (S.rgo1 rw rg rn (if Go.IntKind.wrap .i64 (Int.tdiv t rg) > nw then Go.IntKind.wrap .i64 (Int.tdiv t rg) else nw) ov)))), cutL [Option.some 0] 0 1, List.set (List.set (List.set [(Go.IntKind.wrap .i64 (Int.tdiv t rg), 0, 0, false)] 0 (Go.IntKind.wrap .i64 (Int.tdiv t rg), Prod.fst (S.madd 0 v), 0, false)) 0 (Go.IntKind.wrap .i64 (Int.tdiv t rg), Prod.fst (S.madd 0 v), Go.IntKind.wrap .i64 (0 + 1), false)) 0 (Go.IntKind.wrap .i64 (Int.tdiv t rg), Prod.fst (S.madd 0 v), Go.IntKind.wrap .i64 (0 + 1), !decide (Prod.snd (S.madd 0 v) = 0)))
noncomputable def S.rp1_gk {R : Type} (rw rg rn nw : Int) (ov : Bool) (t v : Int) (k : AVal → List Blk → Option R) : (Int × Nat × Int × Int × Int × Int × Bool × List (Option Nat) × List (Int × Int × Int × Bool)) → Option R := (fun v : Int × Nat × Int × Int × Int × Int × Bool × List (Option Nat) × List (Int × Int × Int × Bool) => k (.int .i64 v.1) [(.var [(.slice 1 1 (0) v.2.1 none), (.int .i64 v.2.2.1), (.int .i64 v.2.2.2.1), (.int .i64 v.2.2.2.2.1), (.int .i64 v.2.2.2.2.2.1), (.bool v.2.2.2.2.2.2.1)]), (.fam 119 (Cd.pair (Cd.int .i64) (Cd.pair (Cd.int .i64) (Cd.pair (Cd.int .i64) Cd.bool))) v.2.2.2.2.2.2.2.1 v.2.2.2.2.2.2.2.2)])
theorem S.rp1_v {R : Type} (rw rg rn nw : Int) (ov : Bool) (t v : Int) (k : AVal → List Blk → Option R) : fnEval tis F67 0 G82 Try.f67 [.ptr 0 0 0, .int .i64 t, .int .i64 v] [.var [.nils, .int .i64 rw, .int .i64 rg, .int .i64 rn, .int .i64 nw, .bool ov]] k = oK (fun v : Int × Nat × Int × Int × Int × Int × Bool × List (Option Nat) × List (Int × Int × Int × Bool) => k (.int .i64 v.1) [(.var [(.slice 1 1 (0) v.2.1 none), (.int .i64 v.2.2.1), (.int .i64 v.2.2.2.1), (.int .i64 v.2.2.2.2.1), (.int .i64 v.2.2.2.2.2.1), (.bool v.2.2.2.2.2.2.1)]), (.fam 119 (Cd.pair (Cd.int .i64) (Cd.pair (Cd.int .i64) (Cd.pair (Cd.int .i64) Cd.bool))) v.2.2.2.2.2.2.2.1 v.2.2.2.2.2.2.2.2)]) (S.rp1 rw rg rn nw ov t v) :=
  (S.rp1_k rw rg rn nw ov t v k).trans (bif_lift (f := (oK (S.rp1_gk rw rg rn nw ov t v k))) rfl (bif_lift (f := (oK (S.rp1_gk rw rg rn nw ov t v k))) rfl (bif_lift (f := (oK (S.rp1_gk rw rg rn nw ov t v k))) rfl (bif_lift (f := (oK (S.rp1_gk rw rg rn nw ov t v k))) rfl (bif_lift (f := (oK (S.rp1_gk rw rg rn nw ov t v k))) rfl rfl)))))
theorem S.rp2_k {R : Type} (t v : Int) (k : AVal → List Blk → Option R) : fnEval tis F67 0 G82 Try.f67 [.nilp, .int .i64 t, .int .i64 v] [] k =
  (k (.int .i64 8) ([])) := by kernel_rfl
noncomputable def S.rp2 (t v : Int) : Int :=
  (8)
theorem S.rp2_v {R : Type} (t v : Int) (k : AVal → List Blk → Option R) : fnEval tis F67 0 G82 Try.f67 [.nilp, .int .i64 t, .int .i64 v] [] k = k (.int .i64 (S.rp2 t v)) [] :=
  (S.rp2_k t v k).trans rfl
noncomputable def H67 : Hnd := fun R args σ k => match args, σ with
  | [.ptr 0 0 0, .int .i64 t, .int .i64 v], [.var [.slice 1 1 lo len none, .int .i64 rw, .int .i64 rg, .int .i64 rn, .int .i64 nw, .bool ov], .fam 119 (.pair (.int .i64) (.pair (.int .i64) (.pair (.int .i64) .bool))) l f] => oK (fun v : Int × Nat × Nat × Int × Int × Int × Int × Bool × List (Option Nat) × BL => k (.int .i64 v.1) [(.var [(.slice 1 2 v.2.1 v.2.2.1 none), (.int .i64 v.2.2.2.1), (.int .i64 v.2.2.2.2.1), (.int .i64 v.2.2.2.2.2.1), (.int .i64 v.2.2.2.2.2.2.1), (.bool v.2.2.2.2.2.2.2.1)]), .dead, (.fam 119 (Cd.pair (Cd.int .i64) (Cd.pair (Cd.int .i64) (Cd.pair (Cd.int .i64) Cd.bool))) v.2.2.2.2.2.2.2.2.1 v.2.2.2.2.2.2.2.2.2)]) (S.rp l f lo len rw rg rn nw ov t v)
  | [.ptr 0 0 0, .int .i64 t, .int .i64 v], [.var [.nils, .int .i64 rw, .int .i64 rg, .int .i64 rn, .int .i64 nw, .bool ov]] => oK (fun v : Int × Nat × Int × Int × Int × Int × Bool × List (Option Nat) × List (Int × Int × Int × Bool) => k (.int .i64 v.1) [(.var [(.slice 1 1 (0) v.2.1 none), (.int .i64 v.2.2.1), (.int .i64 v.2.2.2.1), (.int .i64 v.2.2.2.2.1), (.int .i64 v.2.2.2.2.2.1), (.bool v.2.2.2.2.2.2.1)]), (.fam 119 (Cd.pair (Cd.int .i64) (Cd.pair (Cd.int .i64) (Cd.pair (Cd.int .i64) Cd.bool))) v.2.2.2.2.2.2.2.1 v.2.2.2.2.2.2.2.2)]) (S.rp1 rw rg rn nw ov t v)
  | [.nilp, .int .i64 t, .int .i64 v], [] => k (.int .i64 (S.rp2 t v)) []
  | _, _ => none
theorem H67_ok : HndOk Try.prog 67 H67 := hnd_ok tis tisOk mixOk G82_ok F67 Try.func67 rfl (by
  intro R args σ k r h
  unfold H67 at h
  split at h
  · rename_i t v lo len rw rg rn nw ov l f; exact ⟨0, (S.rp_v l f lo len rw rg rn nw ov t v _).trans h⟩
  · rename_i t v rw rg rn nw ov; exact ⟨0, (S.rp1_v rw rg rn nw ov t v _).trans h⟩
  · rename_i t v; exact ⟨0, (S.rp2_v t v _).trans h⟩
  · cases h)
noncomputable def G67 : Env := Env.add 67 H67 G82
theorem G67_ok : EnvOk Try.prog G67 := envAdd_ok H67_ok G82_ok

/-! (*ring.Ring).Sum -/
def F86 : FCfg := ⟨keepAt [(0, [0, 1]), (1, [0, 1, 20]), (2, [4, 5]), (3, [0, 6]), (4, [0, 6, 7, 8]), (5, [0, 6, 7, 8, 30, 31, 32]), (6, [0, 6, 7, 8, 30, 31, 32, 33]), (7, [0, 6, 7, 8, 10, 30, 31, 32]), (8, [0, 6, 7, 8, 11, 12, 30, 31, 32]), (9, [0, 6, 7, 8, 11, 30, 31, 32, 63]), (10, [0, 6, 8, 11, 13, 14, 30, 31, 32]), (11, [0, 6, 8, 11, 13, 30, 31, 32]), (12, [0, 6, 7, 8, 30, 31, 32]), (13, [0, 6, 7, 8, 30, 31, 32]), (14, [4, 5])], loopAt [(6, [0, 6, 7, 8, 30, 31, 32], [])], []⟩
noncomputable def C_rs (fu : Nat) (l : FL) (f : BL) (lo len : Nat) (rw rg rn nw : Int) (ov : Bool) (t : Int) : Cfg := Cfg.of tis F86 fu (List.length ([.var [.slice 1 1 lo len none, .int .i64 rw, .int .i64 rg, .int .i64 rn, .int .i64 nw, .bool ov], .fam 119 (.pair (.int .i64) (.pair (.int .i64) (.pair (.int .i64) .bool))) l f] : List Blk)) Try.f86.ntmps
noncomputable def S.rs_b0 : Code := codeAt (bodyOf Try.f86) [1, 1, 1, 1, 0, 1, 0, 0]
noncomputable def S.rs_s0 (l : FL) (f : BL) (lo len : Nat) (rw rg rn nw : Int) (ov : Bool) (t : Int) (y0 : Int) (y1 : Int) (y2 : Int) (y3 : Bool) : St := ⟨[(0, (.ptr 0 (0) 0)), (6, (.int .i64 (Go.IntKind.wrap .i64 (Int.tdiv t rg)))), (7, (.int .i64 (y0))), (8, (.int .i64 (y1))), (30, (.slice 1 1 (lo) (len) none)), (31, (.int .i64 (((len : Nat) : Int)))), (32, (.int .i64 (y2)))], [(.var [(.slice 1 1 (lo) (len) none), (.int .i64 (rw)), (.int .i64 (rg)), (.int .i64 (rn)), (.int .i64 (nw)), (.bool (y3))]), (.fam 119 (Cd.pair (Cd.int .i64) (Cd.pair (Cd.int .i64) (Cd.pair (Cd.int .i64) Cd.bool))) (l) (f))]⟩
noncomputable def S.rs_x0_0 (l : FL) (f : BL) (lo len : Nat) (rw rg rn nw : Int) (ov : Bool) (t : Int) (z0 : Int) (z1 : Int) (z2 : Int) (z3 : Bool) (z4 : Bool) : St := ⟨[(0, (.ptr 0 (0) 0)), (6, (.int .i64 (Go.IntKind.wrap .i64 (Int.tdiv t rg)))), (7, (.int .i64 (z0))), (8, (.int .i64 (z1))), (30, (.slice 1 1 (lo) (len) none)), (31, (.int .i64 (((len : Nat) : Int)))), (32, (.int .i64 (z2))), (33, (.bool (z3)))], [(.var [(.slice 1 1 (lo) (len) none), (.int .i64 (rw)), (.int .i64 (rg)), (.int .i64 (rn)), (.int .i64 (nw)), (.bool (z4))]), (.fam 119 (Cd.pair (Cd.int .i64) (Cd.pair (Cd.int .i64) (Cd.pair (Cd.int .i64) Cd.bool))) (l) (f))]⟩
noncomputable def S.rs_g0 {R : Type} (l : FL) (f : BL) (lo len : Nat) (rw rg rn nw : Int) (ov : Bool) (t : Int) (K : Ex → St → Option R) : ((Int × Int × Int × Bool × Bool)) → Option R := (fun z : Int × Int × Int × Bool × Bool => K (Ex.exit 0) (S.rs_x0_0 l f lo len rw rg rn nw ov t (z.1) (z.2.1) (z.2.2.1) (z.2.2.2.1) (z.2.2.2.2)))
noncomputable def S.rs_gk {R : Type} (l : FL) (f : BL) (lo len : Nat) (rw rg rn nw : Int) (ov : Bool) (t : Int) (k : AVal → List Blk → Option R) : (Int × Int × Nat × Nat × Int × Int × Int × Int × Bool × List (Option Nat) × BL) → Option R := (fun v : Int × Int × Nat × Nat × Int × Int × Int × Int × Bool × List (Option Nat) × BL => k (.tuple [(.int .i64 v.1), (.int .i64 v.2.1)]) [(.var [(.slice 1 1 v.2.2.1 v.2.2.2.1 none), (.int .i64 v.2.2.2.2.1), (.int .i64 v.2.2.2.2.2.1), (.int .i64 v.2.2.2.2.2.2.1), (.int .i64 v.2.2.2.2.2.2.2.1), (.bool v.2.2.2.2.2.2.2.2.1)]), (.fam 119 (Cd.pair (Cd.int .i64) (Cd.pair (Cd.int .i64) (Cd.pair (Cd.int .i64) Cd.bool))) v.2.2.2.2.2.2.2.2.2.1 v.2.2.2.2.2.2.2.2.2.2)])
theorem S.rs_l0_k {R : Type} (fu : Nat) (l : FL) (f : BL) (lo len : Nat) (rw rg rn nw : Int) (ov : Bool) (t : Int) (n : Nat) (K : Ex → St → Option R) (y0 : Int) (y1 : Int) (y2 : Int) (y3 : Bool) : loopRun (C_rs fu l f lo len rw rg rn nw ov t) G67 S.rs_b0 (n + 1) (S.rs_s0 l f lo len rw rg rn nw ov t (y0) (y1) (y2) (y3)) K =
  (bif decide (y2 < ((len : Nat) : Int)) then
   bif inB y2 len then
   (optK (l[Int.toNat y2 + lo]?) fun o4 =>
   (optC (o4) (loopRun (C_rs fu l f lo len rw rg rn nw ov t) G67 S.rs_b0 n (S.rs_s0 l f lo len rw rg rn nw ov t (y0) (y1) (Go.IntKind.wrap .i64 (y2 + 1)) (y3)) K) fun o5 =>
   (optK (f[o5]?) fun o6 =>
   bif decide (Go.IntKind.wrap .i64 (Int.tdiv t rg) < o6.1) then
   loopRun (C_rs fu l f lo len rw rg rn nw ov t) G67 S.rs_b0 n (S.rs_s0 l f lo len rw rg rn nw ov t (y0) (y1) (Go.IntKind.wrap .i64 (y2 + 1)) (y3)) K
 else
   (optK (f[o5]?) fun o8 =>
   bif decide (rn ≤ Go.IntKind.wrap .i64 (Go.IntKind.wrap .i64 (Int.tdiv t rg) - o8.1)) then
   loopRun (C_rs fu l f lo len rw rg rn nw ov t) G67 S.rs_b0 n (S.rs_s0 l f lo len rw rg rn nw ov t (y0) (y1) (Go.IntKind.wrap .i64 (y2 + 1)) (y3)) K
 else
   (optK (f[o5]?) fun o10 =>
   bif y3 then
   (optK (f[o5]?) fun o12 =>
   loopRun (C_rs fu l f lo len rw rg rn nw ov t) G67 S.rs_b0 n (S.rs_s0 l f lo len rw rg rn nw ov t (Prod.fst (S.madd y0 o10.2.1)) (Go.IntKind.wrap .i64 (y1 + o12.2.2.1)) (Go.IntKind.wrap .i64 (y2 + 1)) (true)) K)
 else
   (optK (f[o5]?) fun o12 =>
   bif o12.2.2.2 then
   (optK (f[o5]?) fun o14 =>
   loopRun (C_rs fu l f lo len rw rg rn nw ov t) G67 S.rs_b0 n (S.rs_s0 l f lo len rw rg rn nw ov t (Prod.fst (S.madd y0 o10.2.1)) (Go.IntKind.wrap .i64 (y1 + o14.2.2.1)) (Go.IntKind.wrap .i64 (y2 + 1)) (true)) K)
 else
   (optK (f[o5]?) fun o14 =>
   loopRun (C_rs fu l f lo len rw rg rn nw ov t) G67 S.rs_b0 n (S.rs_s0 l f lo len rw rg rn nw ov t (Prod.fst (S.madd y0 o10.2.1)) (Go.IntKind.wrap .i64 (y1 + o14.2.2.1)) (Go.IntKind.wrap .i64 (y2 + 1)) (!decide (Prod.snd (S.madd y0 o10.2.1) = 0))) K)))))))
 else
   none
 else
   K (Ex.exit 0) (S.rs_x0_0 l f lo len rw rg rn nw ov t (y0) (y1) (y2) (decide (y2 < ((len : Nat) : Int))) (y3))) := by kernel_rfl
noncomputable def S.rs_l0 (fu : Nat) (l : FL) (f : BL) (lo len : Nat) (rw rg rn nw : Int) (ov : Bool) (t : Int) : Nat → (Int) → (Int) → (Int) → (Bool) → Option ((Int × Int × Int × Bool × Bool))
  | 0, _, _, _, _ => none
  | n + 1, y0, y1, y2, y3 =>
    bif decide (y2 < ((len : Nat) : Int)) then
   bif inB y2 len then
   (optK (l[Int.toNat y2 + lo]?) fun o4 =>
   (optC (o4) ((S.rs_l0 fu l f lo len rw rg rn nw ov t n) (y0) (y1) (Go.IntKind.wrap .i64 (y2 + 1)) (y3)) fun o5 =>
   (optK (f[o5]?) fun o6 =>
   bif decide (Go.IntKind.wrap .i64 (Int.tdiv t rg) < o6.1) then
   (S.rs_l0 fu l f lo len rw rg rn nw ov t n) (y0) (y1) (Go.IntKind.wrap .i64 (y2 + 1)) (y3)
 else
   (optK (f[o5]?) fun o8 =>
   bif decide (rn ≤ Go.IntKind.wrap .i64 (Go.IntKind.wrap .i64 (Int.tdiv t rg) - o8.1)) then
   (S.rs_l0 fu l f lo len rw rg rn nw ov t n) (y0) (y1) (Go.IntKind.wrap .i64 (y2 + 1)) (y3)
 else
   (optK (f[o5]?) fun o10 =>
   bif y3 then
   (optK (f[o5]?) fun o12 =>
   (S.rs_l0 fu l f lo len rw rg rn nw ov t n) (Prod.fst (S.madd y0 o10.2.1)) (Go.IntKind.wrap .i64 (y1 + o12.2.2.1)) (Go.IntKind.wrap .i64 (y2 + 1)) (true))
 else
   (optK (f[o5]?) fun o12 =>
   bif o12.2.2.2 then
   (optK (f[o5]?) fun o14 =>
   (S.rs_l0 fu l f lo len rw rg rn nw ov t n) (Prod.fst (S.madd y0 o10.2.1)) (Go.IntKind.wrap .i64 (y1 + o14.2.2.1)) (Go.IntKind.wrap .i64 (y2 + 1)) (true))
 else
   (optK (f[o5]?) fun o14 =>
   (S.rs_l0 fu l f lo len rw rg rn nw ov t n) (Prod.fst (S.madd y0 o10.2.1)) (Go.IntKind.wrap .i64 (y1 + o14.2.2.1)) (Go.IntKind.wrap .i64 (y2 + 1)) (!decide (Prod.snd (S.madd y0 o10.2.1) = 0)))))))))
 else
   none
 else
   some (y0, y1, y2, decide (y2 < ((len : Nat) : Int)), y3)
theorem S.rs_l0_v {R : Type} (fu : Nat) (l : FL) (f : BL) (lo len : Nat) (rw rg rn nw : Int) (ov : Bool) (t : Int) (K : Ex → St → Option R) : ∀ (n : Nat) (y0 : Int) (y1 : Int) (y2 : Int) (y3 : Bool), loopRun (C_rs fu l f lo len rw rg rn nw ov t) G67 S.rs_b0 n (S.rs_s0 l f lo len rw rg rn nw ov t (y0) (y1) (y2) (y3)) K = oK (β := (Int × Int × Int × Bool × Bool)) (S.rs_g0 l f lo len rw rg rn nw ov t K) (S.rs_l0 fu l f lo len rw rg rn nw ov t n y0 y1 y2 y3)
  | 0, _, _, _, _ => rfl
  | n + 1, y0, y1, y2, y3 => (S.rs_l0_k fu l f lo len rw rg rn nw ov t n K y0 y1 y2 y3).trans (bif_lift (f := (oK (S.rs_g0 l f lo len rw rg rn nw ov t K))) (bif_lift (f := (oK (S.rs_g0 l f lo len rw rg rn nw ov t K))) (opt_lift fun o4 => (optC_lift (f := (oK (S.rs_g0 l f lo len rw rg rn nw ov t K))) (S.rs_l0_v fu l f lo len rw rg rn nw ov t K n (y0) (y1) (Go.IntKind.wrap .i64 (y2 + 1)) (y3)) fun o5 => (opt_lift fun o6 => (bif_lift (f := (oK (S.rs_g0 l f lo len rw rg rn nw ov t K))) (S.rs_l0_v fu l f lo len rw rg rn nw ov t K n (y0) (y1) (Go.IntKind.wrap .i64 (y2 + 1)) (y3)) (opt_lift fun o8 => (bif_lift (f := (oK (S.rs_g0 l f lo len rw rg rn nw ov t K))) (S.rs_l0_v fu l f lo len rw rg rn nw ov t K n (y0) (y1) (Go.IntKind.wrap .i64 (y2 + 1)) (y3)) (opt_lift fun o10 => (bif_lift (f := (oK (S.rs_g0 l f lo len rw rg rn nw ov t K))) (opt_lift fun o12 => (S.rs_l0_v fu l f lo len rw rg rn nw ov t K n (Prod.fst (S.madd y0 o10.2.1)) (Go.IntKind.wrap .i64 (y1 + o12.2.2.1)) (Go.IntKind.wrap .i64 (y2 + 1)) (true))) (opt_lift fun o12 => (bif_lift (f := (oK (S.rs_g0 l f lo len rw rg rn nw ov t K))) (opt_lift fun o14 => (S.rs_l0_v fu l f lo len rw rg rn nw ov t K n (Prod.fst (S.madd y0 o10.2.1)) (Go.IntKind.wrap .i64 (y1 + o14.2.2.1)) (Go.IntKind.wrap .i64 (y2 + 1)) (true))) (opt_lift fun o14 => (S.rs_l0_v fu l f lo len rw rg rn nw ov t K n (Prod.fst (S.madd y0 o10.2.1)) (Go.IntKind.wrap .i64 (y1 + o14.2.2.1)) (Go.IntKind.wrap .i64 (y2 + 1)) (!decide (Prod.snd (S.madd y0 o10.2.1) = 0)))))))))))))) rfl) rfl)
theorem S.rs_a0_0_k {R : Type} (fu : Nat) (l : FL) (f : BL) (lo len : Nat) (rw rg rn nw : Int) (ov : Bool) (t : Int) (z0 : Int) (z1 : Int) (z2 : Int) (z3 : Bool) (z4 : Bool) (k : AVal → List Blk → Option R) : contOf (C_rs fu l f lo len rw rg rn nw ov t) G67 (bodyOf Try.f86) [1, 1, 1, 1, 0, 1, 0] (retK tis F86 Try.f86 (List.length ([.var [.slice 1 1 lo len none, .int .i64 rw, .int .i64 rg, .int .i64 rn, .int .i64 nw, .bool ov], .fam 119 (.pair (.int .i64) (.pair (.int .i64) (.pair (.int .i64) .bool))) l f] : List Blk)) k) (Ex.exit 0) (S.rs_x0_0 l f lo len rw rg rn nw ov t (z0) (z1) (z2) (z3) (z4)) =
  (k (.tuple [.int .i64 z0, .int .i64 z1]) ([.var [.slice 1 1 lo len Option.none, .int .i64 rw, .int .i64 rg, .int .i64 rn, .int .i64 nw, .bool z4], .fam 119 (Cd.pair (Cd.int .i64) (Cd.pair (Cd.int .i64) (Cd.pair (Cd.int .i64) Cd.bool))) l f])) := by kernel_rfl
noncomputable def S.rs_a0_0 (fu : Nat) (l : FL) (f : BL) (lo len : Nat) (rw rg rn nw : Int) (ov : Bool) (t : Int) (z0 : Int) (z1 : Int) (z2 : Int) (z3 : Bool) (z4 : Bool) : Option (Int × Int × Nat × Nat × Int × Int × Int × Int × Bool × List (Option Nat) × BL) :=
  some (z0, z1, lo, len, rw, rg, rn, nw, z4, l, f)
theorem S.rs_a0_0_v {R : Type} (fu : Nat) (l : FL) (f : BL) (lo len : Nat) (rw rg rn nw : Int) (ov : Bool) (t : Int) (z0 : Int) (z1 : Int) (z2 : Int) (z3 : Bool) (z4 : Bool) (k : AVal → List Blk → Option R) : contOf (C_rs fu l f lo len rw rg rn nw ov t) G67 (bodyOf Try.f86) [1, 1, 1, 1, 0, 1, 0] (retK tis F86 Try.f86 (List.length ([.var [.slice 1 1 lo len none, .int .i64 rw, .int .i64 rg, .int .i64 rn, .int .i64 nw, .bool ov], .fam 119 (.pair (.int .i64) (.pair (.int .i64) (.pair (.int .i64) .bool))) l f] : List Blk)) k) (Ex.exit 0) (S.rs_x0_0 l f lo len rw rg rn nw ov t (z0) (z1) (z2) (z3) (z4)) = oK (S.rs_gk l f lo len rw rg rn nw ov t k) (S.rs_a0_0 fu l f lo len rw rg rn nw ov t z0 z1 z2 z3 z4) :=
  (S.rs_a0_0_k fu l f lo len rw rg rn nw ov t z0 z1 z2 z3 z4 k).trans rfl
theorem S.rs_k {R : Type} (fu : Nat) (l : FL) (f : BL) (lo len : Nat) (rw rg rn nw : Int) (ov : Bool) (t : Int) (k : AVal → List Blk → Option R) : fnEval tis F86 fu G67 Try.f86 [.ptr 0 0 0, .int .i64 t] [.var [.slice 1 1 lo len none, .int .i64 rw, .int .i64 rg, .int .i64 rn, .int .i64 nw, .bool ov], .fam 119 (.pair (.int .i64) (.pair (.int .i64) (.pair (.int .i64) .bool))) l f] k =
  (bif decide (t < 0) then
   k (.tuple [.int .i64 0, .int .i64 0]) ([.var [.slice 1 1 lo len Option.none, .int .i64 rw, .int .i64 rg, .int .i64 rn, .int .i64 nw, .bool ov], .fam 119 (Cd.pair (Cd.int .i64) (Cd.pair (Cd.int .i64) (Cd.pair (Cd.int .i64) Cd.bool))) l f])
 else
   bif decide (rg = 0) then
   none
 else
   loopRun (C_rs fu l f lo len rw rg rn nw ov t) G67 S.rs_b0 fu (S.rs_s0 l f lo len rw rg rn nw ov t (0) (0) (0) (ov)) (contOf (C_rs fu l f lo len rw rg rn nw ov t) G67 (bodyOf Try.f86) [1, 1, 1, 1, 0, 1, 0] (retK tis F86 Try.f86 (List.length ([.var [.slice 1 1 lo len none, .int .i64 rw, .int .i64 rg, .int .i64 rn, .int .i64 nw, .bool ov], .fam 119 (.pair (.int .i64) (.pair (.int .i64) (.pair (.int .i64) .bool))) l f] : List Blk)) k))) := by kernel_rfl
noncomputable def S.rs (fu : Nat) (l : FL) (f : BL) (lo len : Nat) (rw rg rn nw : Int) (ov : Bool) (t : Int) : Option (Int × Int × Nat × Nat × Int × Int × Int × Int × Bool × List (Option Nat) × BL) :=
  bif decide (t < 0) then
   some (0, 0, lo, len, rw, rg, rn, nw, ov, l, f)
 else
   bif decide (rg = 0) then
   none
 else
   optK (S.rs_l0 fu l f lo len rw rg rn nw ov t fu (0) (0) (0) (ov)) (fun z : Int × Int × Int × Bool × Bool => S.rs_a0_0 fu l f lo len rw rg rn nw ov t (z.1) (z.2.1) (z.2.2.1) (z.2.2.2.1) (z.2.2.2.2))
theorem S.rs_v {R : Type} (fu : Nat) (l : FL) (f : BL) (lo len : Nat) (rw rg rn nw : Int) (ov : Bool) (t : Int) (k : AVal → List Blk → Option R) : fnEval tis F86 fu G67 Try.f86 [.ptr 0 0 0, .int .i64 t] [.var [.slice 1 1 lo len none, .int .i64 rw, .int .i64 rg, .int .i64 rn, .int .i64 nw, .bool ov], .fam 119 (.pair (.int .i64) (.pair (.int .i64) (.pair (.int .i64) .bool))) l f] k = oK (fun v : Int × Int × Nat × Nat × Int × Int × Int × Int × Bool × List (Option Nat) × BL => k (.tuple [(.int .i64 v.1), (.int .i64 v.2.1)]) [(.var [(.slice 1 1 v.2.2.1 v.2.2.2.1 none), (.int .i64 v.2.2.2.2.1), (.int .i64 v.2.2.2.2.2.1), (.int .i64 v.2.2.2.2.2.2.1), (.int .i64 v.2.2.2.2.2.2.2.1), (.bool v.2.2.2.2.2.2.2.2.1)]), (.fam 119 (Cd.pair (Cd.int .i64) (Cd.pair (Cd.int .i64) (Cd.pair (Cd.int .i64) Cd.bool))) v.2.2.2.2.2.2.2.2.2.1 v.2.2.2.2.2.2.2.2.2.2)]) (S.rs fu l f lo len rw rg rn nw ov t) :=
  (S.rs_k fu l f lo len rw rg rn nw ov t k).trans (bif_lift (f := (oK (S.rs_gk l f lo len rw rg rn nw ov t k))) rfl (bif_lift (f := (oK (S.rs_gk l f lo len rw rg rn nw ov t k))) rfl (arr_lift (S.rs_l0_v fu l f lo len rw rg rn nw ov t (contOf (C_rs fu l f lo len rw rg rn nw ov t) G67 (bodyOf Try.f86) [1, 1, 1, 1, 0, 1, 0] (retK tis F86 Try.f86 (List.length ([.var [.slice 1 1 lo len none, .int .i64 rw, .int .i64 rg, .int .i64 rn, .int .i64 nw, .bool ov], .fam 119 (.pair (.int .i64) (.pair (.int .i64) (.pair (.int .i64) .bool))) l f] : List Blk)) k)) fu (0) (0) (0) (ov)) ((fun z => S.rs_a0_0_v fu l f lo len rw rg rn nw ov t (z.1) (z.2.1) (z.2.2.1) (z.2.2.2.1) (z.2.2.2.2) k)))))
noncomputable def C_rs1 (fu : Nat) (rw rg rn nw : Int) (ov : Bool) (t : Int) : Cfg := Cfg.of tis F86 fu (List.length ([.var [.nils, .int .i64 rw, .int .i64 rg, .int .i64 rn, .int .i64 nw, .bool ov]] : List Blk)) Try.f86.ntmps
noncomputable def S.rs1_b0 : Code := codeAt (bodyOf Try.f86) [1, 1, 1, 1, 0, 1, 0, 0]
noncomputable def S.rs1_s0 (rw rg rn nw : Int) (ov : Bool) (t : Int)  : St := ⟨[(0, (.ptr 0 (0) 0)), (6, (.int .i64 (Go.IntKind.wrap .i64 (Int.tdiv t rg)))), (7, (.int .i64 (0))), (8, (.int .i64 (0))), (30, .nils), (31, (.int .i64 (0))), (32, (.int .i64 (0)))], [(.var [.nils, (.int .i64 (rw)), (.int .i64 (rg)), (.int .i64 (rn)), (.int .i64 (nw)), (.bool (ov))])]⟩
noncomputable def S.rs1_x0_0 (rw rg rn nw : Int) (ov : Bool) (t : Int)  : St := ⟨[(0, (.ptr 0 (0) 0)), (6, (.int .i64 (Go.IntKind.wrap .i64 (Int.tdiv t rg)))), (7, (.int .i64 (0))), (8, (.int .i64 (0))), (30, .nils), (31, (.int .i64 (0))), (32, (.int .i64 (0))), (33, (.bool (false)))], [(.var [.nils, (.int .i64 (rw)), (.int .i64 (rg)), (.int .i64 (rn)), (.int .i64 (nw)), (.bool (ov))])]⟩
noncomputable def S.rs1_g0 {R : Type} (rw rg rn nw : Int) (ov : Bool) (t : Int) (K : Ex → St → Option R) : ((Unit)) → Option R := (fun z : Unit => K (Ex.exit 0) (S.rs1_x0_0 rw rg rn nw ov t))
noncomputable def S.rs1_gk {R : Type} (rw rg rn nw : Int) (ov : Bool) (t : Int) (k : AVal → List Blk → Option R) : (Int × Int × Int × Int × Int × Int × Bool) → Option R := (fun v : Int × Int × Int × Int × Int × Int × Bool => k (.tuple [(.int .i64 v.1), (.int .i64 v.2.1)]) [(.var [.nils, (.int .i64 v.2.2.1), (.int .i64 v.2.2.2.1), (.int .i64 v.2.2.2.2.1), (.int .i64 v.2.2.2.2.2.1), (.bool v.2.2.2.2.2.2)])])
theorem S.rs1_l0_k {R : Type} (fu : Nat) (rw rg rn nw : Int) (ov : Bool) (t : Int) (n : Nat) (K : Ex → St → Option R)  : loopRun (C_rs1 fu rw rg rn nw ov t) G67 S.rs1_b0 (n + 1) (S.rs1_s0 rw rg rn nw ov t) K =
  (K (Ex.exit 0) (S.rs1_x0_0 rw rg rn nw ov t)) := by kernel_rfl
noncomputable def S.rs1_l0 (fu : Nat) (rw rg rn nw : Int) (ov : Bool) (t : Int) : Nat → Option ((Unit))
  | 0 => none
  | n + 1 =>
    some ()
theorem S.rs1_l0_v {R : Type} (fu : Nat) (rw rg rn nw : Int) (ov : Bool) (t : Int) (K : Ex → St → Option R) : ∀ (n : Nat) , loopRun (C_rs1 fu rw rg rn nw ov t) G67 S.rs1_b0 n (S.rs1_s0 rw rg rn nw ov t) K = oK (β := (Unit)) (S.rs1_g0 rw rg rn nw ov t K) (S.rs1_l0 fu rw rg rn nw ov t n)
  | 0 => rfl
  | n + 1 => (S.rs1_l0_k fu rw rg rn nw ov t n K).trans rfl
theorem S.rs1_a0_0_k {R : Type} (fu : Nat) (rw rg rn nw : Int) (ov : Bool) (t : Int)  (k : AVal → List Blk → Option R) : contOf (C_rs1 fu rw rg rn nw ov t) G67 (bodyOf Try.f86) [1, 1, 1, 1, 0, 1, 0] (retK tis F86 Try.f86 (List.length ([.var [.nils, .int .i64 rw, .int .i64 rg, .int .i64 rn, .int .i64 nw, .bool ov]] : List Blk)) k) (Ex.exit 0) (S.rs1_x0_0 rw rg rn nw ov t) =
  (k (.tuple [.int .i64 0, .int .i64 0]) ([.var [.nils, .int .i64 rw, .int .i64 rg, .int .i64 rn, .int .i64 nw, .bool ov]])) := by kernel_rfl
noncomputable def S.rs1_a0_0 (fu : Nat) (rw rg rn nw : Int) (ov : Bool) (t : Int)  : Option (Int × Int × Int × Int × Int × Int × Bool) :=
  some (0, 0, rw, rg, rn, nw, ov)
theorem S.rs1_a0_0_v {R : Type} (fu : Nat) (rw rg rn nw : Int) (ov : Bool) (t : Int)  (k : AVal → List Blk → Option R) : contOf (C_rs1 fu rw rg rn nw ov t) G67 (bodyOf Try.f86) [1, 1, 1, 1, 0, 1, 0] (retK tis F86 Try.f86 (List.length ([.var [.nils, .int .i64 rw, .int .i64 rg, .int .i64 rn, .int .i64 nw, .bool ov]] : List Blk)) k) (Ex.exit 0) (S.rs1_x0_0 rw rg rn nw ov t) = oK (S.rs1_gk rw rg rn nw ov t k) (S.rs1_a0_0 fu rw rg rn nw ov t) :=
  (S.rs1_a0_0_k fu rw rg rn nw ov t k).trans rfl
theorem S.rs1_k {R : Type} (fu : Nat) (rw rg rn nw : Int) (ov : Bool) (t : Int) (k : AVal → List Blk → Option R) : fnEval tis F86 fu G67 Try.f86 [.ptr 0 0 0, .int .i64 t] [.var [.nils, .int .i64 rw, .int .i64 rg, .int .i64 rn, .int .i64 nw, .bool ov]] k =
  (bif decide (t < 0) then
   k (.tuple [.int .i64 0, .int .i64 0]) ([.var [.nils, .int .i64 rw, .int .i64 rg, .int .i64 rn, .int .i64 nw, .bool ov]])
 else
   bif decide (rg = 0) then
   none
 else
   loopRun (C_rs1 fu rw rg rn nw ov t) G67 S.rs1_b0 fu (S.rs1_s0 rw rg rn nw ov t) (contOf (C_rs1 fu rw rg rn nw ov t) G67 (bodyOf Try.f86) [1, 1, 1, 1, 0, 1, 0] (retK tis F86 Try.f86 (List.length ([.var [.nils, .int .i64 rw, .int .i64 rg, .int .i64 rn, .int .i64 nw, .bool ov]] : List Blk)) k))) := by kernel_rfl
noncomputable def S.rs1 (fu : Nat) (rw rg rn nw : Int) (ov : Bool) (t : Int) : Option (Int × Int × Int × Int × Int × Int × Bool) :=
  bif decide (t < 0) then
   some (0, 0, rw, rg, rn, nw, ov)
 else
   bif decide (rg = 0) then
   none
 else
   optK (S.rs1_l0 fu rw rg rn nw ov t fu) (fun z : Unit => S.rs1_a0_0 fu rw rg rn nw ov t)
theorem S.rs1_v {R : Type} (fu : Nat) (rw rg rn nw : Int) (ov : Bool) (t : Int) (k : AVal → List Blk → Option R) : fnEval tis F86 fu G67 Try.f86 [.ptr 0 0 0, .int .i64 t] [.var [.nils, .int .i64 rw, .int .i64 rg, .int .i64 rn, .int .i64 nw, .bool ov]] k = oK (fun v : Int × Int × Int × Int × Int × Int × Bool => k (.tuple [(.int .i64 v.1), (.int .i64 v.2.1)]) [(.var [.nils, (.int .i64 v.2.2.1), (.int .i64 v.2.2.2.1), (.int .i64 v.2.2.2.2.1), (.int .i64 v.2.2.2.2.2.1), (.bool v.2.2.2.2.2.2)])]) (S.rs1 fu rw rg rn nw ov t) :=
  (S.rs1_k fu rw rg rn nw ov t k).trans (bif_lift (f := (oK (S.rs1_gk rw rg rn nw ov t k))) rfl (bif_lift (f := (oK (S.rs1_gk rw rg rn nw ov t k))) rfl (arr_lift (S.rs1_l0_v fu rw rg rn nw ov t (contOf (C_rs1 fu rw rg rn nw ov t) G67 (bodyOf Try.f86) [1, 1, 1, 1, 0, 1, 0] (retK tis F86 Try.f86 (List.length ([.var [.nils, .int .i64 rw, .int .i64 rg, .int .i64 rn, .int .i64 nw, .bool ov]] : List Blk)) k)) fu) ((fun z => S.rs1_a0_0_v fu rw rg rn nw ov t k)))))
noncomputable def C_rs2 (fu : Nat) (t : Int) : Cfg := Cfg.of tis F86 fu (List.length ([] : List Blk)) Try.f86.ntmps
noncomputable def S.rs2_b0 : Code := codeAt (bodyOf Try.f86) [1, 1, 1, 1, 0, 1, 0, 0]
noncomputable def S.rs2_gk {R : Type} (t : Int) (k : AVal → List Blk → Option R) : (Int × Int) → Option R := (fun v : Int × Int => k (.tuple [(.int .i64 v.1), (.int .i64 v.2)]) [])
theorem S.rs2_k {R : Type} (fu : Nat) (t : Int) (k : AVal → List Blk → Option R) : fnEval tis F86 fu G67 Try.f86 [.nilp, .int .i64 t] [] k =
  (k (.tuple [.int .i64 0, .int .i64 0]) ([])) := by kernel_rfl
noncomputable def S.rs2 (fu : Nat) (t : Int) : Option (Int × Int) :=
  some (0, 0)
theorem S.rs2_v {R : Type} (fu : Nat) (t : Int) (k : AVal → List Blk → Option R) : fnEval tis F86 fu G67 Try.f86 [.nilp, .int .i64 t] [] k = oK (fun v : Int × Int => k (.tuple [(.int .i64 v.1), (.int .i64 v.2)]) []) (S.rs2 fu t) :=
  (S.rs2_k fu t k).trans rfl
noncomputable def H86 : Hnd := fun R args σ k => match args, σ with
  | [.ptr 0 0 0, .int .i64 t], [.var [.slice 1 1 lo len none, .int .i64 rw, .int .i64 rg, .int .i64 rn, .int .i64 nw, .bool ov], .fam 119 (.pair (.int .i64) (.pair (.int .i64) (.pair (.int .i64) .bool))) l f] => oK (fun v : Int × Int × Nat × Nat × Int × Int × Int × Int × Bool × List (Option Nat) × BL => k (.tuple [(.int .i64 v.1), (.int .i64 v.2.1)]) [(.var [(.slice 1 1 v.2.2.1 v.2.2.2.1 none), (.int .i64 v.2.2.2.2.1), (.int .i64 v.2.2.2.2.2.1), (.int .i64 v.2.2.2.2.2.2.1), (.int .i64 v.2.2.2.2.2.2.2.1), (.bool v.2.2.2.2.2.2.2.2.1)]), (.fam 119 (Cd.pair (Cd.int .i64) (Cd.pair (Cd.int .i64) (Cd.pair (Cd.int .i64) Cd.bool))) v.2.2.2.2.2.2.2.2.2.1 v.2.2.2.2.2.2.2.2.2.2)]) (S.rs 100000 l f lo len rw rg rn nw ov t)
  | [.ptr 0 0 0, .int .i64 t], [.var [.nils, .int .i64 rw, .int .i64 rg, .int .i64 rn, .int .i64 nw, .bool ov]] => oK (fun v : Int × Int × Int × Int × Int × Int × Bool => k (.tuple [(.int .i64 v.1), (.int .i64 v.2.1)]) [(.var [.nils, (.int .i64 v.2.2.1), (.int .i64 v.2.2.2.1), (.int .i64 v.2.2.2.2.1), (.int .i64 v.2.2.2.2.2.1), (.bool v.2.2.2.2.2.2)])]) (S.rs1 100000 rw rg rn nw ov t)
  | [.nilp, .int .i64 t], [] => oK (fun v : Int × Int => k (.tuple [(.int .i64 v.1), (.int .i64 v.2)]) []) (S.rs2 100000 t)
  | _, _ => none
theorem H86_ok : HndOk Try.prog 86 H86 := hnd_ok tis tisOk mixOk G67_ok F86 Try.func86 rfl (by
  intro R args σ k r h
  unfold H86 at h
  split at h
  · rename_i t lo len rw rg rn nw ov l f; exact ⟨100000, (S.rs_v 100000 l f lo len rw rg rn nw ov t _).trans h⟩
  · rename_i t rw rg rn nw ov; exact ⟨100000, (S.rs1_v 100000 rw rg rn nw ov t _).trans h⟩
  · rename_i t; exact ⟨100000, (S.rs2_v 100000 t _).trans h⟩
  · cases h)
noncomputable def G86 : Env := Env.add 86 H86 G67
theorem G86_ok : EnvOk Try.prog G86 := envAdd_ok H86_ok G67_ok

/-! (*ring.Ring).Mean -/
def F68 : FCfg := ⟨keepAt [(0, [0, 1]), (1, [5, 6]), (2, [5, 6, 14]), (3, [4]), (4, [4])], loopAt [], []⟩
theorem S.rm_k {R : Type} (l : FL) (f : BL) (lo len : Nat) (rw rg rn nw : Int) (ov : Bool) (t : Int) (k : AVal → List Blk → Option R) : fnEval tis F68 0 G86 Try.f68 [.ptr 0 0 0, .int .i64 t] [.var [.slice 1 1 lo len none, .int .i64 rw, .int .i64 rg, .int .i64 rn, .int .i64 nw, .bool ov], .fam 119 (.pair (.int .i64) (.pair (.int .i64) (.pair (.int .i64) .bool))) l f] k =
  ((optK (S.rs 100000 l f lo len rw rg rn nw ov t) fun o2 =>
   bif decide (o2.2.1 = 0) then
   k (.int .i64 0) ([.var [.slice 1 1 o2.2.2.1 o2.2.2.2.1 Option.none, .int .i64 o2.2.2.2.2.1, .int .i64 o2.2.2.2.2.2.1, .int .i64 o2.2.2.2.2.2.2.1, .int .i64 o2.2.2.2.2.2.2.2.1, .bool o2.2.2.2.2.2.2.2.2.1], .fam 119 (Cd.pair (Cd.int .i64) (Cd.pair (Cd.int .i64) (Cd.pair (Cd.int .i64) Cd.bool))) o2.2.2.2.2.2.2.2.2.2.1 o2.2.2.2.2.2.2.2.2.2.2])
 else
   bif decide (o2.2.1 = 0) then
   none
 else
   k (.int .i64 (Go.IntKind.wrap .i64 (Int.tdiv o2.1 o2.2.1))) ([.var [.slice 1 1 o2.2.2.1 o2.2.2.2.1 Option.none, .int .i64 o2.2.2.2.2.1, .int .i64 o2.2.2.2.2.2.1, .int .i64 o2.2.2.2.2.2.2.1, .int .i64 o2.2.2.2.2.2.2.2.1, .bool o2.2.2.2.2.2.2.2.2.1], .fam 119 (Cd.pair (Cd.int .i64) (Cd.pair (Cd.int .i64) (Cd.pair (Cd.int .i64) Cd.bool))) o2.2.2.2.2.2.2.2.2.2.1 o2.2.2.2.2.2.2.2.2.2.2]))) := by kernel_rfl
noncomputable def S.rm (l : FL) (f : BL) (lo len : Nat) (rw rg rn nw : Int) (ov : Bool) (t : Int) : Option (Int × Nat × Nat × Int × Int × Int × Int × Bool × List (Option Nat) × List (Int × Int × Int × Bool)) :=
  (optK (S.rs 100000 l f lo len rw rg rn nw ov t) fun o2 =>
   bif decide (o2.2.1 = 0) then
   some (0, o2.2.2.1, o2.2.2.2.1, o2.2.2.2.2.1, o2.2.2.2.2.2.1, o2.2.2.2.2.2.2.1, o2.2.2.2.2.2.2.2.1, o2.2.2.2.2.2.2.2.2.1, o2.2.2.2.2.2.2.2.2.2.1, o2.2.2.2.2.2.2.2.2.2.2)
 else
   bif decide (o2.2.1 = 0) then
   none
 else
   some (Go.IntKind.wrap .i64 (Int.tdiv o2.1 o2.2.1), o2.2.2.1, o2.2.2.2.1, o2.2.2.2.2.1, o2.2.2.2.2.2.1, o2.2.2.2.2.2.2.1, o2.2.2.2.2.2.2.2.1, o2.2.2.2.2.2.2.2.2.1, o2.2.2.2.2.2.2.2.2.2.1, o2.2.2.2.2.2.2.2.2.2.2))
noncomputable def S.rm_gk {R : Type} (l : FL) (f : BL) (lo len : Nat) (rw rg rn nw : Int) (ov : Bool) (t : Int) (k : AVal → List Blk → Option R) : (Int × Nat × Nat × Int × Int × Int × Int × Bool × List (Option Nat) × List (Int × Int × Int × Bool)) → Option R := (fun v : Int × Nat × Nat × Int × Int × Int × Int × Bool × List (Option Nat) × List (Int × Int × Int × Bool) => k (.int .i64 v.1) [(.var [(.slice 1 1 v.2.1 v.2.2.1 none), (.int .i64 v.2.2.2.1), (.int .i64 v.2.2.2.2.1), (.int .i64 v.2.2.2.2.2.1), (.int .i64 v.2.2.2.2.2.2.1), (.bool v.2.2.2.2.2.2.2.1)]), (.fam 119 (Cd.pair (Cd.int .i64) (Cd.pair (Cd.int .i64) (Cd.pair (Cd.int .i64) Cd.bool))) v.2.2.2.2.2.2.2.2.1 v.2.2.2.2.2.2.2.2.2)])
theorem S.rm_v {R : Type} (l : FL) (f : BL) (lo len : Nat) (rw rg rn nw : Int) (ov : Bool) (t : Int) (k : AVal → List Blk → Option R) : fnEval tis F68 0 G86 Try.f68 [.ptr 0 0 0, .int .i64 t] [.var [.slice 1 1 lo len none, .int .i64 rw, .int .i64 rg, .int .i64 rn, .int .i64 nw, .bool ov], .fam 119 (.pair (.int .i64) (.pair (.int .i64) (.pair (.int .i64) .bool))) l f] k = oK (fun v : Int × Nat × Nat × Int × Int × Int × Int × Bool × List (Option Nat) × List (Int × Int × Int × Bool) => k (.int .i64 v.1) [(.var [(.slice 1 1 v.2.1 v.2.2.1 none), (.int .i64 v.2.2.2.1), (.int .i64 v.2.2.2.2.1), (.int .i64 v.2.2.2.2.2.1), (.int .i64 v.2.2.2.2.2.2.1), (.bool v.2.2.2.2.2.2.2.1)]), (.fam 119 (Cd.pair (Cd.int .i64) (Cd.pair (Cd.int .i64) (Cd.pair (Cd.int .i64) Cd.bool))) v.2.2.2.2.2.2.2.2.1 v.2.2.2.2.2.2.2.2.2)]) (S.rm l f lo len rw rg rn nw ov t) :=
  (S.rm_k l f lo len rw rg rn nw ov t k).trans (opt_lift fun o2 => (bif_lift (f := (oK (S.rm_gk l f lo len rw rg rn nw ov t k))) rfl (bif_lift (f := (oK (S.rm_gk l f lo len rw rg rn nw ov t k))) rfl rfl)))
theorem S.rm1_k {R : Type} (rw rg rn nw : Int) (ov : Bool) (t : Int) (k : AVal → List Blk → Option R) : fnEval tis F68 0 G86 Try.f68 [.ptr 0 0 0, .int .i64 t] [.var [.nils, .int .i64 rw, .int .i64 rg, .int .i64 rn, .int .i64 nw, .bool ov]] k =
  ((optK (S.rs1 100000 rw rg rn nw ov t) fun o2 =>
   bif decide (o2.2.1 = 0) then
   k (.int .i64 0) ([.var [.nils, .int .i64 o2.2.2.1, .int .i64 o2.2.2.2.1, .int .i64 o2.2.2.2.2.1, .int .i64 o2.2.2.2.2.2.1, .bool o2.2.2.2.2.2.2]])
 else
   bif decide (o2.2.1 = 0) then
   none
 else
   k (.int .i64 (Go.IntKind.wrap .i64 (Int.tdiv o2.1 o2.2.1))) ([.var [.nils, .int .i64 o2.2.2.1, .int .i64 o2.2.2.2.1, .int .i64 o2.2.2.2.2.1, .int .i64 o2.2.2.2.2.2.1, .bool o2.2.2.2.2.2.2]]))) := by kernel_rfl
noncomputable def S.rm1 (rw rg rn nw : Int) (ov : Bool) (t : Int) : Option (Int × Int × Int × Int × Int × Bool) :=
  (optK (S.rs1 100000 rw rg rn nw ov t) fun o2 =>
   bif decide (o2.2.1 = 0) then
   some (0, o2.2.2.1, o2.2.2.2.1, o2.2.2.2.2.1, o2.2.2.2.2.2.1, o2.2.2.2.2.2.2)
 else
   bif decide (o2.2.1 = 0) then
   none
 else
   some (Go.IntKind.wrap .i64 (Int.tdiv o2.1 o2.2.1), o2.2.2.1, o2.2.2.2.1, o2.2.2.2.2.1, o2.2.2.2.2.2.1, o2.2.2.2.2.2.2))
noncomputable def S.rm1_gk {R : Type} (rw rg rn nw : Int) (ov : Bool) (t : Int) (k : AVal → List Blk → Option R) : (Int × Int × Int × Int × Int × Bool) → Option R := (fun v : Int × Int × Int × Int × Int × Bool => k (.int .i64 v.1) [(.var [.nils, (.int .i64 v.2.1), (.int .i64 v.2.2.1), (.int .i64 v.2.2.2.1), (.int .i64 v.2.2.2.2.1), (.bool v.2.2.2.2.2)])])
theorem S.rm1_v {R : Type} (rw rg rn nw : Int) (ov : Bool) (t : Int) (k : AVal → List Blk → Option R) : fnEval tis F68 0 G86 Try.f68 [.ptr 0 0 0, .int .i64 t] [.var [.nils, .int .i64 rw, .int .i64 rg, .int .i64 rn, .int .i64 nw, .bool ov]] k = oK (fun v : Int × Int × Int × Int × Int × Bool => k (.int .i64 v.1) [(.var [.nils, (.int .i64 v.2.1), (.int .i64 v.2.2.1), (.int .i64 v.2.2.2.1), (.int .i64 v.2.2.2.2.1), (.bool v.2.2.2.2.2)])]) (S.rm1 rw rg rn nw ov t) :=
  (S.rm1_k rw rg rn nw ov t k).trans (opt_lift fun o2 => (bif_lift (f := (oK (S.rm1_gk rw rg rn nw ov t k))) rfl (bif_lift (f := (oK (S.rm1_gk rw rg rn nw ov t k))) rfl rfl)))
theorem S.rm2_k {R : Type} (t : Int) (k : AVal → List Blk → Option R) : fnEval tis F68 0 G86 Try.f68 [.nilp, .int .i64 t] [] k =
  (k (.int .i64 0) ([])) := by kernel_rfl
noncomputable def S.rm2 (t : Int) : Int :=
  (0)
theorem S.rm2_v {R : Type} (t : Int) (k : AVal → List Blk → Option R) : fnEval tis F68 0 G86 Try.f68 [.nilp, .int .i64 t] [] k = k (.int .i64 (S.rm2 t)) [] :=
  (S.rm2_k t k).trans rfl
noncomputable def H68 : Hnd := fun R args σ k => match args, σ with
  | [.ptr 0 0 0, .int .i64 t], [.var [.slice 1 1 lo len none, .int .i64 rw, .int .i64 rg, .int .i64 rn, .int .i64 nw, .bool ov], .fam 119 (.pair (.int .i64) (.pair (.int .i64) (.pair (.int .i64) .bool))) l f] => oK (fun v : Int × Nat × Nat × Int × Int × Int × Int × Bool × List (Option Nat) × List (Int × Int × Int × Bool) => k (.int .i64 v.1) [(.var [(.slice 1 1 v.2.1 v.2.2.1 none), (.int .i64 v.2.2.2.1), (.int .i64 v.2.2.2.2.1), (.int .i64 v.2.2.2.2.2.1), (.int .i64 v.2.2.2.2.2.2.1), (.bool v.2.2.2.2.2.2.2.1)]), (.fam 119 (Cd.pair (Cd.int .i64) (Cd.pair (Cd.int .i64) (Cd.pair (Cd.int .i64) Cd.bool))) v.2.2.2.2.2.2.2.2.1 v.2.2.2.2.2.2.2.2.2)]) (S.rm l f lo len rw rg rn nw ov t)
  | [.ptr 0 0 0, .int .i64 t], [.var [.nils, .int .i64 rw, .int .i64 rg, .int .i64 rn, .int .i64 nw, .bool ov]] => oK (fun v : Int × Int × Int × Int × Int × Bool => k (.int .i64 v.1) [(.var [.nils, (.int .i64 v.2.1), (.int .i64 v.2.2.1), (.int .i64 v.2.2.2.1), (.int .i64 v.2.2.2.2.1), (.bool v.2.2.2.2.2)])]) (S.rm1 rw rg rn nw ov t)
  | [.nilp, .int .i64 t], [] => k (.int .i64 (S.rm2 t)) []
  | _, _ => none
theorem H68_ok : HndOk Try.prog 68 H68 := hnd_ok tis tisOk mixOk G86_ok F68 Try.func68 rfl (by
  intro R args σ k r h
  unfold H68 at h
  split at h
  · rename_i t lo len rw rg rn nw ov l f; exact ⟨0, (S.rm_v l f lo len rw rg rn nw ov t _).trans h⟩
  · rename_i t rw rg rn nw ov; exact ⟨0, (S.rm1_v rw rg rn nw ov t _).trans h⟩
  · rename_i t; exact ⟨0, (S.rm2_v t _).trans h⟩
  · cases h)
noncomputable def G68 : Env := Env.add 68 H68 G86
theorem G68_ok : EnvOk Try.prog G68 := envAdd_ok H68_ok G86_ok

/-! (*ring.Ring).Resize -/
def F76 : FCfg := ⟨keepAt [(0, [0, 1]), (1, [0, 1, 5]), (2, [4]), (3, [0, 1, 8]), (4, [4]), (5, [0]), (6, []), (7, [4])], loopAt [], []⟩
theorem S.rr_k {R : Type} (l : FL) (f : BL) (lo len : Nat) (rw rg rn nw : Int) (ov : Bool) (w : Int) (k : AVal → List Blk → Option R) : fnEval tis F76 0 G68 Try.f76 [.ptr 0 0 0, .int .i64 w] [.var [.slice 1 1 lo len none, .int .i64 rw, .int .i64 rg, .int .i64 rn, .int .i64 nw, .bool ov], .fam 119 (.pair (.int .i64) (.pair (.int .i64) (.pair (.int .i64) .bool))) l f] k =
  (bif decide (w < rg) then
   k (.int .i64 1) ([.var [.slice 1 1 lo len Option.none, .int .i64 rw, .int .i64 rg, .int .i64 rn, .int .i64 nw, .bool ov], .fam 119 (Cd.pair (Cd.int .i64) (Cd.pair (Cd.int .i64) (Cd.pair (Cd.int .i64) Cd.bool))) l f])
 else
   bif decide (600 < w) then
   k (.int .i64 1) ([.var [.slice 1 1 lo len Option.none, .int .i64 rw, .int .i64 rg, .int .i64 rn, .int .i64 nw, .bool ov], .fam 119 (Cd.pair (Cd.int .i64) (Cd.pair (Cd.int .i64) (Cd.pair (Cd.int .i64) Cd.bool))) l f])
 else
   (optK (S.pbuckets w rg) fun o4 =>
   (optK (S.rgo l f lo len w rg o4 nw ov) fun o5 =>
   k (.int .i64 0) ([.var [.slice 1 1 o5.1 o5.2.1 Option.none, .int .i64 o5.2.2.1, .int .i64 o5.2.2.2.1, .int .i64 o5.2.2.2.2.1, .int .i64 o5.2.2.2.2.2.1, .bool o5.2.2.2.2.2.2.1], .fam 119 (Cd.pair (Cd.int .i64) (Cd.pair (Cd.int .i64) (Cd.pair (Cd.int .i64) Cd.bool))) o5.2.2.2.2.2.2.2.1 o5.2.2.2.2.2.2.2.2])))) := by kernel_rfl
noncomputable def S.rr (l : FL) (f : BL) (lo len : Nat) (rw rg rn nw : Int) (ov : Bool) (w : Int) : Option (Int × Nat × Nat × Int × Int × Int × Int × Bool × List (Option Nat) × BL) :=
  bif decide (w < rg) then
   some (1, lo, len, rw, rg, rn, nw, ov, l, f)
 else
   bif decide (600 < w) then
   some (1, lo, len, rw, rg, rn, nw, ov, l, f)
 else
   (optK (S.pbuckets w rg) fun o4 =>
   (optK (S.rgo l f lo len w rg o4 nw ov) fun o5 =>
   some (0, o5.1, o5.2.1, o5.2.2.1, o5.2.2.2.1, o5.2.2.2.2.1, o5.2.2.2.2.2.1, o5.2.2.2.2.2.2.1, o5.2.2.2.2.2.2.2.1, o5.2.2.2.2.2.2.2.2)))
noncomputable def S.rr_gk {R : Type} (l : FL) (f : BL) (lo len : Nat) (rw rg rn nw : Int) (ov : Bool) (w : Int) (k : AVal → List Blk → Option R) : (Int × Nat × Nat × Int × Int × Int × Int × Bool × List (Option Nat) × BL) → Option R := (fun v : Int × Nat × Nat × Int × Int × Int × Int × Bool × List (Option Nat) × BL => k (.int .i64 v.1) [(.var [(.slice 1 1 v.2.1 v.2.2.1 none), (.int .i64 v.2.2.2.1), (.int .i64 v.2.2.2.2.1), (.int .i64 v.2.2.2.2.2.1), (.int .i64 v.2.2.2.2.2.2.1), (.bool v.2.2.2.2.2.2.2.1)]), (.fam 119 (Cd.pair (Cd.int .i64) (Cd.pair (Cd.int .i64) (Cd.pair (Cd.int .i64) Cd.bool))) v.2.2.2.2.2.2.2.2.1 v.2.2.2.2.2.2.2.2.2)])
theorem S.rr_v {R : Type} (l : FL) (f : BL) (lo len : Nat) (rw rg rn nw : Int) (ov : Bool) (w : Int) (k : AVal → List Blk → Option R) : fnEval tis F76 0 G68 Try.f76 [.ptr 0 0 0, .int .i64 w] [.var [.slice 1 1 lo len none, .int .i64 rw, .int .i64 rg, .int .i64 rn, .int .i64 nw, .bool ov], .fam 119 (.pair (.int .i64) (.pair (.int .i64) (.pair (.int .i64) .bool))) l f] k = oK (fun v : Int × Nat × Nat × Int × Int × Int × Int × Bool × List (Option Nat) × BL => k (.int .i64 v.1) [(.var [(.slice 1 1 v.2.1 v.2.2.1 none), (.int .i64 v.2.2.2.1), (.int .i64 v.2.2.2.2.1), (.int .i64 v.2.2.2.2.2.1), (.int .i64 v.2.2.2.2.2.2.1), (.bool v.2.2.2.2.2.2.2.1)]), (.fam 119 (Cd.pair (Cd.int .i64) (Cd.pair (Cd.int .i64) (Cd.pair (Cd.int .i64) Cd.bool))) v.2.2.2.2.2.2.2.2.1 v.2.2.2.2.2.2.2.2.2)]) (S.rr l f lo len rw rg rn nw ov w) :=
  (S.rr_k l f lo len rw rg rn nw ov w k).trans (bif_lift (f := (oK (S.rr_gk l f lo len rw rg rn nw ov w k))) rfl (bif_lift (f := (oK (S.rr_gk l f lo len rw rg rn nw ov w k))) rfl (opt_lift fun o4 => (opt_lift fun o5 => rfl))))
theorem S.rr1_k {R : Type} (rw rg rn nw : Int) (ov : Bool) (w : Int) (k : AVal → List Blk → Option R) : fnEval tis F76 0 G68 Try.f76 [.ptr 0 0 0, .int .i64 w] [.var [.nils, .int .i64 rw, .int .i64 rg, .int .i64 rn, .int .i64 nw, .bool ov]] k =
  (bif decide (w < rg) then
   k (.int .i64 1) ([.var [.nils, .int .i64 rw, .int .i64 rg, .int .i64 rn, .int .i64 nw, .bool ov]])
 else
   bif decide (600 < w) then
   k (.int .i64 1) ([.var [.nils, .int .i64 rw, .int .i64 rg, .int .i64 rn, .int .i64 nw, .bool ov]])
 else
   (optK (S.pbuckets w rg) fun o4 =>
   k (.int .i64 0) ([.var [.nils, .int .i64 (Prod.fst (S.rgo1 w rg o4 nw ov)), .int .i64 (Prod.fst (Prod.snd (S.rgo1 w rg o4 nw ov))), .int .i64 (Prod.fst (Prod.snd (Prod.snd (S.rgo1 w rg o4 nw ov)))), .int .i64 (Prod.fst (Prod.snd (Prod.snd (Prod.snd (S.rgo1 w rg o4 nw ov))))), .bool (Prod.snd (Prod.snd (Prod.snd (Prod.snd (S.rgo1 w rg o4 nw ov)))))]]))) := by kernel_rfl
noncomputable def S.rr1 (rw rg rn nw : Int) (ov : Bool) (w : Int) : Option (Int × Int × Int × Int × Int × Bool) :=
  bif decide (w < rg) then
   some (1, rw, rg, rn, nw, ov)
 else
   bif decide (600 < w) then
   some (1, rw, rg, rn, nw, ov)
 else
   (optK (S.pbuckets w rg) fun o4 =>
   some (0, Prod.fst (S.rgo1 w rg o4 nw ov), Prod.fst (Prod.snd (S.rgo1 w rg o4 nw ov)), Prod.fst (Prod.snd (Prod.snd (S.rgo1 w rg o4 nw ov))), Prod.fst (Prod.snd (Prod.snd (Prod.snd (S.rgo1 w rg o4 nw ov)))), Prod.snd (Prod.snd (Prod.snd (Prod.snd (S.rgo1 w rg o4 nw ov))))))
noncomputable def S.rr1_gk {R : Type} (rw rg rn nw : Int) (ov : Bool) (w : Int) (k : AVal → List Blk → Option R) : (Int × Int × Int × Int × Int × Bool) → Option R := (fun v : Int × Int × Int × Int × Int × Bool => k (.int .i64 v.1) [(.var [.nils, (.int .i64 v.2.1), (.int .i64 v.2.2.1), (.int .i64 v.2.2.2.1), (.int .i64 v.2.2.2.2.1), (.bool v.2.2.2.2.2)])])
theorem S.rr1_v {R : Type} (rw rg rn nw : Int) (ov : Bool) (w : Int) (k : AVal → List Blk → Option R) : fnEval tis F76 0 G68 Try.f76 [.ptr 0 0 0, .int .i64 w] [.var [.nils, .int .i64 rw, .int .i64 rg, .int .i64 rn, .int .i64 nw, .bool ov]] k = oK (fun v : Int × Int × Int × Int × Int × Bool => k (.int .i64 v.1) [(.var [.nils, (.int .i64 v.2.1), (.int .i64 v.2.2.1), (.int .i64 v.2.2.2.1), (.int .i64 v.2.2.2.2.1), (.bool v.2.2.2.2.2)])]) (S.rr1 rw rg rn nw ov w) :=
  (S.rr1_k rw rg rn nw ov w k).trans (bif_lift (f := (oK (S.rr1_gk rw rg rn nw ov w k))) rfl (bif_lift (f := (oK (S.rr1_gk rw rg rn nw ov w k))) rfl (opt_lift fun o4 => rfl)))
theorem S.rr2_k {R : Type} (w : Int) (k : AVal → List Blk → Option R) : fnEval tis F76 0 G68 Try.f76 [.nilp, .int .i64 w] [] k =
  (k (.int .i64 8) ([])) := by kernel_rfl
noncomputable def S.rr2 (w : Int) : Int :=
  (8)
theorem S.rr2_v {R : Type} (w : Int) (k : AVal → List Blk → Option R) : fnEval tis F76 0 G68 Try.f76 [.nilp, .int .i64 w] [] k = k (.int .i64 (S.rr2 w)) [] :=
  (S.rr2_k w k).trans rfl
noncomputable def H76 : Hnd := fun R args σ k => match args, σ with
  | [.ptr 0 0 0, .int .i64 w], [.var [.slice 1 1 lo len none, .int .i64 rw, .int .i64 rg, .int .i64 rn, .int .i64 nw, .bool ov], .fam 119 (.pair (.int .i64) (.pair (.int .i64) (.pair (.int .i64) .bool))) l f] => oK (fun v : Int × Nat × Nat × Int × Int × Int × Int × Bool × List (Option Nat) × BL => k (.int .i64 v.1) [(.var [(.slice 1 1 v.2.1 v.2.2.1 none), (.int .i64 v.2.2.2.1), (.int .i64 v.2.2.2.2.1), (.int .i64 v.2.2.2.2.2.1), (.int .i64 v.2.2.2.2.2.2.1), (.bool v.2.2.2.2.2.2.2.1)]), (.fam 119 (Cd.pair (Cd.int .i64) (Cd.pair (Cd.int .i64) (Cd.pair (Cd.int .i64) Cd.bool))) v.2.2.2.2.2.2.2.2.1 v.2.2.2.2.2.2.2.2.2)]) (S.rr l f lo len rw rg rn nw ov w)
  | [.ptr 0 0 0, .int .i64 w], [.var [.nils, .int .i64 rw, .int .i64 rg, .int .i64 rn, .int .i64 nw, .bool ov]] => oK (fun v : Int × Int × Int × Int × Int × Bool => k (.int .i64 v.1) [(.var [.nils, (.int .i64 v.2.1), (.int .i64 v.2.2.1), (.int .i64 v.2.2.2.1), (.int .i64 v.2.2.2.2.1), (.bool v.2.2.2.2.2)])]) (S.rr1 rw rg rn nw ov w)
  | [.nilp, .int .i64 w], [] => k (.int .i64 (S.rr2 w)) []
  | _, _ => none
theorem H76_ok : HndOk Try.prog 76 H76 := hnd_ok tis tisOk mixOk G68_ok F76 Try.func76 rfl (by
  intro R args σ k r h
  unfold H76 at h
  split at h
  · rename_i w lo len rw rg rn nw ov l f; exact ⟨0, (S.rr_v l f lo len rw rg rn nw ov w _).trans h⟩
  · rename_i w rw rg rn nw ov; exact ⟨0, (S.rr1_v rw rg rn nw ov w _).trans h⟩
  · rename_i w; exact ⟨0, (S.rr2_v w _).trans h⟩
  · cases h)
noncomputable def G76 : Env := Env.add 76 H76 G68
theorem G76_ok : EnvOk Try.prog G76 := envAdd_ok H76_ok G68_ok

/-! (*ring.Ring).Over -/
def F77 : FCfg := ⟨keepAt [(0, [0]), (1, [2])], loopAt [], []⟩
theorem S.ro_k {R : Type} (l : FL) (f : BL) (lo len : Nat) (rw rg rn nw : Int) (ov : Bool) (k : AVal → List Blk → Option R) : fnEval tis F77 0 G76 Try.f77 [.ptr 0 0 0] [.var [.slice 1 1 lo len none, .int .i64 rw, .int .i64 rg, .int .i64 rn, .int .i64 nw, .bool ov], .fam 119 (.pair (.int .i64) (.pair (.int .i64) (.pair (.int .i64) .bool))) l f] k =
  (k (.bool ov) ([.var [.slice 1 1 lo len Option.none, .int .i64 rw, .int .i64 rg, .int .i64 rn, .int .i64 nw, .bool ov], .fam 119 (Cd.pair (Cd.int .i64) (Cd.pair (Cd.int .i64) (Cd.pair (Cd.int .i64) Cd.bool))) l f])) := by kernel_rfl
noncomputable def S.ro (l : FL) (f : BL) (lo len : Nat) (rw rg rn nw : Int) (ov : Bool) : Bool :=
  (ov)
theorem S.ro_v {R : Type} (l : FL) (f : BL) (lo len : Nat) (rw rg rn nw : Int) (ov : Bool) (k : AVal → List Blk → Option R) : fnEval tis F77 0 G76 Try.f77 [.ptr 0 0 0] [.var [.slice 1 1 lo len none, .int .i64 rw, .int .i64 rg, .int .i64 rn, .int .i64 nw, .bool ov], .fam 119 (.pair (.int .i64) (.pair (.int .i64) (.pair (.int .i64) .bool))) l f] k = k (.bool (S.ro l f lo len rw rg rn nw ov)) [.var [.slice 1 1 lo len none, .int .i64 rw, .int .i64 rg, .int .i64 rn, .int .i64 nw, .bool ov], .fam 119 (.pair (.int .i64) (.pair (.int .i64) (.pair (.int .i64) .bool))) l f] :=
  (S.ro_k l f lo len rw rg rn nw ov k).trans rfl
theorem S.ro1_k {R : Type} (rw rg rn nw : Int) (ov : Bool) (k : AVal → List Blk → Option R) : fnEval tis F77 0 G76 Try.f77 [.ptr 0 0 0] [.var [.nils, .int .i64 rw, .int .i64 rg, .int .i64 rn, .int .i64 nw, .bool ov]] k =
  (k (.bool ov) ([.var [.nils, .int .i64 rw, .int .i64 rg, .int .i64 rn, .int .i64 nw, .bool ov]])) := by kernel_rfl
noncomputable def S.ro1 (rw rg rn nw : Int) (ov : Bool) : Bool :=
  (ov)
theorem S.ro1_v {R : Type} (rw rg rn nw : Int) (ov : Bool) (k : AVal → List Blk → Option R) : fnEval tis F77 0 G76 Try.f77 [.ptr 0 0 0] [.var [.nils, .int .i64 rw, .int .i64 rg, .int .i64 rn, .int .i64 nw, .bool ov]] k = k (.bool (S.ro1 rw rg rn nw ov)) [.var [.nils, .int .i64 rw, .int .i64 rg, .int .i64 rn, .int .i64 nw, .bool ov]] :=
  (S.ro1_k rw rg rn nw ov k).trans rfl
theorem S.ro2_k {R : Type}  (k : AVal → List Blk → Option R) : fnEval tis F77 0 G76 Try.f77 [.nilp] [] k =
  (k (.bool false) ([])) := by kernel_rfl
noncomputable def S.ro2  : Bool :=
  (false)
theorem S.ro2_v {R : Type}  (k : AVal → List Blk → Option R) : fnEval tis F77 0 G76 Try.f77 [.nilp] [] k = k (.bool (S.ro2)) [] :=
  (S.ro2_k k).trans rfl
noncomputable def H77 : Hnd := fun R args σ k => match args, σ with
  | [.ptr 0 0 0], [.var [.slice 1 1 lo len none, .int .i64 rw, .int .i64 rg, .int .i64 rn, .int .i64 nw, .bool ov], .fam 119 (.pair (.int .i64) (.pair (.int .i64) (.pair (.int .i64) .bool))) l f] => k (.bool (S.ro l f lo len rw rg rn nw ov)) []
  | [.ptr 0 0 0], [.var [.nils, .int .i64 rw, .int .i64 rg, .int .i64 rn, .int .i64 nw, .bool ov]] => k (.bool (S.ro1 rw rg rn nw ov)) []
  | [.nilp], [] => k (.bool (S.ro2)) []
  | _, _ => none
theorem H77_ok : HndOk Try.prog 77 H77 := hnd_ok_pure tis tisOk mixOk G76_ok F77 Try.func77 rfl (by
  intro R args σ k r h
  unfold H77 at h
  split at h
  · rename_i lo len rw rg rn nw ov l f; exact ⟨0, (S.ro_v l f lo len rw rg rn nw ov _).trans ((if_pos rfl).trans h)⟩
  · rename_i rw rg rn nw ov; exact ⟨0, (S.ro1_v rw rg rn nw ov _).trans ((if_pos rfl).trans h)⟩
  · exact ⟨0, (S.ro2_v _).trans ((if_pos rfl).trans h)⟩
  · cases h)
noncomputable def G77 : Env := Env.add 77 H77 G76
theorem G77_ok : EnvOk Try.prog G77 := envAdd_ok H77_ok G76_ok
end Go.Proofs.Ytdgipcjigbagfaa.AB
