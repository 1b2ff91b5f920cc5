/- Rings, as plain functions: the methods. -/
import Derived.Test.YtdgipcjigbagfaaGreatSring
namespace Go.Proofs.YtdgipcjigbagfaaGreat.AB
set_option linter.unusedVariables false

/-! (*ring.Ring).forget -/
def F104 : FCfg := ⟨keepAt [(0, [1]), (1, [])], loopAt [], []⟩
noncomputable def S.rgo_L {R : Type} (l : FL) (f : BL) (lo len : Nat) (rw rg rn nw : Int) (ov : Bool) (k : AVal → List Blk → Option R) : Option R := fnEval tis F104 0 G86 Tryz.f104 [.ptr 0 0 0] [.var [.slice 1 1 lo len none, .int .i64 rw, .int .i64 rg, .int .i64 rn, .int .i64 nw, .bool ov], .fam 135 (.pair (.int .i64) (.pair (.int .i64) (.pair (.int .i64) .bool))) l f] k
noncomputable def S.rgo_gk {R : Type} (l : FL) (f : BL) (lo len : Nat) (rw rg rn nw : Int) (ov : Bool) (k : AVal → List Blk → Option R) : (Nat × Nat × Int × Int × Int × Int × Bool × List (Option Nat) × List (Int × Int × Int × Bool)) → Option R := (fun v : Nat × Nat × Int × Int × Int × Int × Bool × List (Option Nat) × List (Int × Int × Int × Bool) => k (.tuple []) [(.var [(.slice 1 1 v.1 v.2.1 none), (.int .i64 v.2.2.1), (.int .i64 v.2.2.2.1), (.int .i64 v.2.2.2.2.1), (.int .i64 v.2.2.2.2.2.1), (.bool v.2.2.2.2.2.2.1)]), (.fam 135 (Cd.pair (Cd.int .i64) (Cd.pair (Cd.int .i64) (Cd.pair (Cd.int .i64) Cd.bool))) v.2.2.2.2.2.2.2.1 v.2.2.2.2.2.2.2.2)])
noncomputable def S.rgo (l : FL) (f : BL) (lo len : Nat) (rw rg rn nw : Int) (ov : Bool) : Option (Nat × Nat × Int × Int × Int × Int × Bool × List (Option Nat) × List (Int × Int × Int × Bool)) :=
  (optK (S.rdel 100000 l f lo len lo len rw rg rn nw ov) fun o2 =>
   some (o2.1, o2.2.1, o2.2.2.2.2.2.2.1, o2.2.2.2.2.2.2.2.1, o2.2.2.2.2.2.2.2.2.1, o2.2.2.2.2.2.2.2.2.2.1, o2.2.2.2.2.2.2.2.2.2.2, o2.2.2.1, o2.2.2.2.1))
theorem S.rgo_v {R : Type} (l : FL) (f : BL) (lo len : Nat) (rw rg rn nw : Int) (ov : Bool) (k : AVal → List Blk → Option R) : S.rgo_L l f lo len rw rg rn nw ov k = oK (S.rgo_gk l f lo len rw rg rn nw ov k) (S.rgo l f lo len rw rg rn nw ov) :=
  (show S.rgo_L l f lo len rw rg rn nw ov k =
  ((optK (S.rdel 100000 l f lo len lo len rw rg rn nw ov) fun o2 =>
   (S.rgo_gk l f lo len rw rg rn nw ov k) (o2.1, o2.2.1, o2.2.2.2.2.2.2.1, o2.2.2.2.2.2.2.2.1, o2.2.2.2.2.2.2.2.2.1, o2.2.2.2.2.2.2.2.2.2.1, o2.2.2.2.2.2.2.2.2.2.2, o2.2.2.1, o2.2.2.2.1))) from by kernel_rfl).trans (opt_lift fun o2 => rfl)
noncomputable def H104 : Hnd := fun R args σ k => match args, σ with
  | [.ptr 0 0 0], [.var [.slice 1 1 lo len none, .int .i64 rw, .int .i64 rg, .int .i64 rn, .int .i64 nw, .bool ov], .fam 135 (.pair (.int .i64) (.pair (.int .i64) (.pair (.int .i64) .bool))) l f] => oK (fun v : Nat × Nat × Int × Int × Int × Int × Bool × List (Option Nat) × List (Int × Int × Int × Bool) => k (.tuple []) [(.var [(.slice 1 1 v.1 v.2.1 none), (.int .i64 v.2.2.1), (.int .i64 v.2.2.2.1), (.int .i64 v.2.2.2.2.1), (.int .i64 v.2.2.2.2.2.1), (.bool v.2.2.2.2.2.2.1)]), (.fam 135 (Cd.pair (Cd.int .i64) (Cd.pair (Cd.int .i64) (Cd.pair (Cd.int .i64) Cd.bool))) v.2.2.2.2.2.2.2.1 v.2.2.2.2.2.2.2.2)]) (S.rgo l f lo len rw rg rn nw ov)
  | _, _ => none
theorem H104_ok : HndOk Tryz.prog 104 H104 := hnd_ok tis tisOk mixOk G86_ok F104 Tryz.func104 rfl (by
  intro R args σ k r h
  unfold H104 at h
  split at h
  · rename_i lo len rw rg rn nw ov l f; exact ⟨0, (S.rgo_v l f lo len rw rg rn nw ov _).trans h⟩
  · cases h)
noncomputable def G104 : Env := Env.add 104 H104 G86
theorem G104_ok : EnvOk Tryz.prog G104 := envAdd_ok H104_ok G86_ok

/-! (*ring.Ring).Put -/
def F76 : FCfg := ⟨keepAt [(0, [0, 1, 2]), (1, [0, 1, 2, 12]), (2, [6]), (3, [0, 1, 2, 15]), (4, [6]), (5, [0, 2, 7]), (6, [0, 2, 7]), (7, [0, 2, 7]), (8, [0, 2, 7, 53]), (9, [6]), (10, [0, 2, 7, 8]), (11, [0, 2, 7, 8, 61]), (12, [0, 2, 7, 8]), (13, [0, 2, 8]), (14, [2, 9]), (15, [9, 10, 11]), (16, []), (17, [6])], loopAt [], [⟨1, false, 0, [], 0, (.pair (.int .i64) (.pair (.int .i64) (.pair (.int .i64) .bool))), some 135⟩, ⟨2, false, 0, [0], 0, .bool, none⟩]⟩
noncomputable def S.rp_L {R : Type} (l : FL) (f : BL) (lo len : Nat) (rw rg rn nw : Int) (ov : Bool) (t v : Int) (k : AVal → List Blk → Option R) : Option R := fnEval tis F76 0 G104 Tryz.f76 [.ptr 0 0 0, .int .i64 t, .int .i64 v] [.var [.slice 1 1 lo len none, .int .i64 rw, .int .i64 rg, .int .i64 rn, .int .i64 nw, .bool ov], .fam 135 (.pair (.int .i64) (.pair (.int .i64) (.pair (.int .i64) .bool))) l f] k
noncomputable def S.rp_gk {R : Type} (l : FL) (f : BL) (lo len : Nat) (rw rg rn nw : Int) (ov : Bool) (t v : Int) (k : AVal → List Blk → Option R) : (Int × Nat × Nat × Int × Int × Int × Int × Bool × List (Option Nat) × BL) → Option R := (fun v : Int × Nat × Nat × Int × Int × Int × Int × Bool × List (Option Nat) × BL => k (.int .i64 v.1) [(.var [(.slice 1 2 v.2.1 v.2.2.1 none), (.int .i64 v.2.2.2.1), (.int .i64 v.2.2.2.2.1), (.int .i64 v.2.2.2.2.2.1), (.int .i64 v.2.2.2.2.2.2.1), (.bool v.2.2.2.2.2.2.2.1)]), .dead, (.fam 135 (Cd.pair (Cd.int .i64) (Cd.pair (Cd.int .i64) (Cd.pair (Cd.int .i64) Cd.bool))) v.2.2.2.2.2.2.2.2.1 v.2.2.2.2.2.2.2.2.2)])
noncomputable def S.rp (l : FL) (f : BL) (lo len : Nat) (rw rg rn nw : Int) (ov : Bool) (t v : Int) : Option (Int × Nat × Nat × Int × Int × Int × Int × Bool × List (Option Nat) × BL) :=
  bif decide (t < 0) then
   some (1, lo, len, rw, rg, rn, nw, ov, l, f)
 else
   bif decide (1099511627776 < t) then
   some (1, lo, len, rw, rg, rn, nw, ov, l, f)
 else
   bif decide (v < 0) then
   some (1, lo, len, rw, rg, rn, nw, ov, l, f)
 else
   bif decide (rg = 0) then
   none
 else
   (optK (S.rgo l f lo len rw rg rn (if Go.IntKind.wrap .i64 (Int.tdiv t rg) > nw then Go.IntKind.wrap .i64 (Int.tdiv t rg) else nw) ov) fun o6 =>
   bif decide (o6.2.2.2.2.1 ≤ Go.IntKind.wrap .i64 (o6.2.2.2.2.2.1 - Go.IntKind.wrap .i64 (Int.tdiv t rg))) then
   some (0, o6.1, o6.2.1, o6.2.2.1, o6.2.2.2.1, o6.2.2.2.2.1, o6.2.2.2.2.2.1, o6.2.2.2.2.2.2.1, o6.2.2.2.2.2.2.2.1, o6.2.2.2.2.2.2.2.2)
 else
   (optK (S.rix2 100000 o6.2.2.2.2.2.2.2.1 o6.2.2.2.2.2.2.2.2 o6.1 o6.2.1 (Go.IntKind.wrap .i64 (Int.tdiv t rg))) fun o8 =>
   bif decide (o8 < 0) then
   bif Nat.beq 1 1 && Nat.blt 0 16 && Nat.beq 1 1 && Nat.beq 1 1 && Nat.beq 1 1 && true && !Nat.beq 1 4 && Nat.ble ((o6.2.1 + 1) * 16) 35184372088832 then
   bif inB (((o6.2.1 : Nat) : Int)) (List.length (cutL o6.2.2.2.2.2.2.2.1 o6.1 o6.2.1 ++ [Option.some (0 + List.length o6.2.2.2.2.2.2.2.2)])) then
   (optK ((cutL o6.2.2.2.2.2.2.2.1 o6.1 o6.2.1 ++ [Option.some (0 + List.length o6.2.2.2.2.2.2.2.2)])[Int.toNat ((o6.2.1 : Nat) : Int) + 0]?) fun o12 =>
   (optK (o12) fun o13 =>
   (optK ((o6.2.2.2.2.2.2.2.2 ++ [(Go.IntKind.wrap .i64 (Int.tdiv t rg), 0, 0, false)])[o13]?) fun o14 =>
   (optK ((o6.2.2.2.2.2.2.2.2 ++ [(Go.IntKind.wrap .i64 (Int.tdiv t rg), 0, 0, false)])[o13]?) fun o15 =>
   (optK ((o6.2.2.2.2.2.2.2.2 ++ [(Go.IntKind.wrap .i64 (Int.tdiv t rg), 0, 0, false)])[o13]?) fun o16 =>
   bif o16.2.2.2 then
   (optK ((o6.2.2.2.2.2.2.2.2 ++ [(Go.IntKind.wrap .i64 (Int.tdiv t rg), 0, 0, false)])[o13]?) fun o18 =>
   (optK ((List.set (o6.2.2.2.2.2.2.2.2 ++ [(Go.IntKind.wrap .i64 (Int.tdiv t rg), 0, 0, false)]) o13 (o18.1, Prod.fst (S.madd o14.2.1 v), o18.2.2.1, o18.2.2.2))[o13]?) fun o19 =>
   (optK ((List.set (List.set (o6.2.2.2.2.2.2.2.2 ++ [(Go.IntKind.wrap .i64 (Int.tdiv t rg), 0, 0, false)]) o13 (o18.1, Prod.fst (S.madd o14.2.1 v), o18.2.2.1, o18.2.2.2)) o13 (o19.1, o19.2.1, Go.IntKind.wrap .i64 (o15.2.2.1 + 1), o19.2.2.2))[o13]?) fun o20 =>
   some (0, 0, List.length (cutL o6.2.2.2.2.2.2.2.1 o6.1 o6.2.1 ++ [Option.some (0 + List.length o6.2.2.2.2.2.2.2.2)]), o6.2.2.1, o6.2.2.2.1, o6.2.2.2.2.1, o6.2.2.2.2.2.1, o6.2.2.2.2.2.2.1, cutL o6.2.2.2.2.2.2.2.1 o6.1 o6.2.1 ++ [Option.some (0 + List.length o6.2.2.2.2.2.2.2.2)], List.set (List.set (List.set (o6.2.2.2.2.2.2.2.2 ++ [(Go.IntKind.wrap .i64 (Int.tdiv t rg), 0, 0, false)]) o13 (o18.1, Prod.fst (S.madd o14.2.1 v), o18.2.2.1, o18.2.2.2)) o13 (o19.1, o19.2.1, Go.IntKind.wrap .i64 (o15.2.2.1 + 1), o19.2.2.2)) o13 (o20.1, o20.2.1, o20.2.2.1, true)))))
 else
   (optK ((o6.2.2.2.2.2.2.2.2 ++ [(Go.IntKind.wrap .i64 (Int.tdiv t rg), 0, 0, false)])[o13]?) fun o18 =>
   (optK ((List.set (o6.2.2.2.2.2.2.2.2 ++ [(Go.IntKind.wrap .i64 (Int.tdiv t rg), 0, 0, false)]) o13 (o18.1, Prod.fst (S.madd o14.2.1 v), o18.2.2.1, o18.2.2.2))[o13]?) fun o19 =>
   (optK ((List.set (List.set (o6.2.2.2.2.2.2.2.2 ++ [(Go.IntKind.wrap .i64 (Int.tdiv t rg), 0, 0, false)]) o13 (o18.1, Prod.fst (S.madd o14.2.1 v), o18.2.2.1, o18.2.2.2)) o13 (o19.1, o19.2.1, Go.IntKind.wrap .i64 (o15.2.2.1 + 1), o19.2.2.2))[o13]?) fun o20 =>
   some (0, 0, List.length (cutL o6.2.2.2.2.2.2.2.1 o6.1 o6.2.1 ++ [Option.some (0 + List.length o6.2.2.2.2.2.2.2.2)]), o6.2.2.1, o6.2.2.2.1, o6.2.2.2.2.1, o6.2.2.2.2.2.1, o6.2.2.2.2.2.2.1, cutL o6.2.2.2.2.2.2.2.1 o6.1 o6.2.1 ++ [Option.some (0 + List.length o6.2.2.2.2.2.2.2.2)], List.set (List.set (List.set (o6.2.2.2.2.2.2.2.2 ++ [(Go.IntKind.wrap .i64 (Int.tdiv t rg), 0, 0, false)]) o13 (o18.1, Prod.fst (S.madd o14.2.1 v), o18.2.2.1, o18.2.2.2)) o13 (o19.1, o19.2.1, Go.IntKind.wrap .i64 (o15.2.2.1 + 1), o19.2.2.2)) o13 (o20.1, o20.2.1, o20.2.2.1, !decide (Prod.snd (S.madd o14.2.1 v) = 0)))))))))))
 else
   none
 else
   none
 else
   bif inB o8 o6.2.1 then
   (optK (o6.2.2.2.2.2.2.2.1[Int.toNat o8 + o6.1]?) fun o11 =>
   (optK (o11) fun o12 =>
   (optK (o6.2.2.2.2.2.2.2.2[o12]?) fun o13 =>
   (optK (o6.2.2.2.2.2.2.2.2[o12]?) fun o14 =>
   (optK (o6.2.2.2.2.2.2.2.2[o12]?) fun o15 =>
   bif o15.2.2.2 then
   (optK (o6.2.2.2.2.2.2.2.2[o12]?) fun o17 =>
   (optK ((List.set o6.2.2.2.2.2.2.2.2 o12 (o17.1, Prod.fst (S.madd o13.2.1 v), o17.2.2.1, o17.2.2.2))[o12]?) fun o18 =>
   (optK ((List.set (List.set o6.2.2.2.2.2.2.2.2 o12 (o17.1, Prod.fst (S.madd o13.2.1 v), o17.2.2.1, o17.2.2.2)) o12 (o18.1, o18.2.1, Go.IntKind.wrap .i64 (o14.2.2.1 + 1), o18.2.2.2))[o12]?) fun o19 =>
   some (0, o6.1, o6.2.1, o6.2.2.1, o6.2.2.2.1, o6.2.2.2.2.1, o6.2.2.2.2.2.1, o6.2.2.2.2.2.2.1, o6.2.2.2.2.2.2.2.1, List.set (List.set (List.set o6.2.2.2.2.2.2.2.2 o12 (o17.1, Prod.fst (S.madd o13.2.1 v), o17.2.2.1, o17.2.2.2)) o12 (o18.1, o18.2.1, Go.IntKind.wrap .i64 (o14.2.2.1 + 1), o18.2.2.2)) o12 (o19.1, o19.2.1, o19.2.2.1, true)))))
 else
   (optK (o6.2.2.2.2.2.2.2.2[o12]?) fun o17 =>
   (optK ((List.set o6.2.2.2.2.2.2.2.2 o12 (o17.1, Prod.fst (S.madd o13.2.1 v), o17.2.2.1, o17.2.2.2))[o12]?) fun o18 =>
   (optK ((List.set (List.set o6.2.2.2.2.2.2.2.2 o12 (o17.1, Prod.fst (S.madd o13.2.1 v), o17.2.2.1, o17.2.2.2)) o12 (o18.1, o18.2.1, Go.IntKind.wrap .i64 (o14.2.2.1 + 1), o18.2.2.2))[o12]?) fun o19 =>
   some (0, o6.1, o6.2.1, o6.2.2.1, o6.2.2.2.1, o6.2.2.2.2.1, o6.2.2.2.2.2.1, o6.2.2.2.2.2.2.1, o6.2.2.2.2.2.2.2.1, List.set (List.set (List.set o6.2.2.2.2.2.2.2.2 o12 (o17.1, Prod.fst (S.madd o13.2.1 v), o17.2.2.1, o17.2.2.2)) o12 (o18.1, o18.2.1, Go.IntKind.wrap .i64 (o14.2.2.1 + 1), o18.2.2.2)) o12 (o19.1, o19.2.1, o19.2.2.1, !decide (Prod.snd (S.madd o13.2.1 v) = 0)))))))))))
 else
   none))
theorem S.rp_v {R : Type} (l : FL) (f : BL) (lo len : Nat) (rw rg rn nw : Int) (ov : Bool) (t v : Int) (k : AVal → List Blk → Option R) : S.rp_L l f lo len rw rg rn nw ov t v k = oK (S.rp_gk l f lo len rw rg rn nw ov t v k) (S.rp l f lo len rw rg rn nw ov t v) :=
  (show S.rp_L l f lo len rw rg rn nw ov t v k =
  (bif decide (t < 0) then
   (S.rp_gk l f lo len rw rg rn nw ov t v k) (1, lo, len, rw, rg, rn, nw, ov, l, f)
 else
   bif decide (1099511627776 < t) then
   (S.rp_gk l f lo len rw rg rn nw ov t v k) (1, lo, len, rw, rg, rn, nw, ov, l, f)
 else
   bif decide (v < 0) then
   (S.rp_gk l f lo len rw rg rn nw ov t v k) (1, lo, len, rw, rg, rn, nw, ov, l, f)
 else
   bif decide (rg = 0) then
   none
 else
   (optK (S.rgo l f lo len rw rg rn (if Go.IntKind.wrap .i64 (Int.tdiv t rg) > nw then Go.IntKind.wrap .i64 (Int.tdiv t rg) else nw) ov) fun o6 =>
   bif decide (o6.2.2.2.2.1 ≤ Go.IntKind.wrap .i64 (o6.2.2.2.2.2.1 - Go.IntKind.wrap .i64 (Int.tdiv t rg))) then
   (S.rp_gk l f lo len rw rg rn nw ov t v k) (0, o6.1, o6.2.1, o6.2.2.1, o6.2.2.2.1, o6.2.2.2.2.1, o6.2.2.2.2.2.1, o6.2.2.2.2.2.2.1, o6.2.2.2.2.2.2.2.1, o6.2.2.2.2.2.2.2.2)
 else
   (optK (S.rix2 100000 o6.2.2.2.2.2.2.2.1 o6.2.2.2.2.2.2.2.2 o6.1 o6.2.1 (Go.IntKind.wrap .i64 (Int.tdiv t rg))) fun o8 =>
   bif decide (o8 < 0) then
   bif Nat.beq 1 1 && Nat.blt 0 16 && Nat.beq 1 1 && Nat.beq 1 1 && Nat.beq 1 1 && true && !Nat.beq 1 4 && Nat.ble ((o6.2.1 + 1) * 16) 35184372088832 then
   bif inB (((o6.2.1 : Nat) : Int)) (List.length (cutL o6.2.2.2.2.2.2.2.1 o6.1 o6.2.1 ++ [Option.some (0 + List.length o6.2.2.2.2.2.2.2.2)])) then
   (optK ((cutL o6.2.2.2.2.2.2.2.1 o6.1 o6.2.1 ++ [Option.some (0 + List.length o6.2.2.2.2.2.2.2.2)])[Int.toNat ((o6.2.1 : Nat) : Int) + 0]?) fun o12 =>
   (optK (o12) fun o13 =>
   (optK ((o6.2.2.2.2.2.2.2.2 ++ [(Go.IntKind.wrap .i64 (Int.tdiv t rg), 0, 0, false)])[o13]?) fun o14 =>
   (optK ((o6.2.2.2.2.2.2.2.2 ++ [(Go.IntKind.wrap .i64 (Int.tdiv t rg), 0, 0, false)])[o13]?) fun o15 =>
   (optK ((o6.2.2.2.2.2.2.2.2 ++ [(Go.IntKind.wrap .i64 (Int.tdiv t rg), 0, 0, false)])[o13]?) fun o16 =>
   bif o16.2.2.2 then
   (optK ((o6.2.2.2.2.2.2.2.2 ++ [(Go.IntKind.wrap .i64 (Int.tdiv t rg), 0, 0, false)])[o13]?) fun o18 =>
   (optK ((List.set (o6.2.2.2.2.2.2.2.2 ++ [(Go.IntKind.wrap .i64 (Int.tdiv t rg), 0, 0, false)]) o13 (o18.1, Prod.fst (S.madd o14.2.1 v), o18.2.2.1, o18.2.2.2))[o13]?) fun o19 =>
   (optK ((List.set (List.set (o6.2.2.2.2.2.2.2.2 ++ [(Go.IntKind.wrap .i64 (Int.tdiv t rg), 0, 0, false)]) o13 (o18.1, Prod.fst (S.madd o14.2.1 v), o18.2.2.1, o18.2.2.2)) o13 (o19.1, o19.2.1, Go.IntKind.wrap .i64 (o15.2.2.1 + 1), o19.2.2.2))[o13]?) fun o20 =>
   (S.rp_gk l f lo len rw rg rn nw ov t v k) (0, 0, List.length (cutL o6.2.2.2.2.2.2.2.1 o6.1 o6.2.1 ++ [Option.some (0 + List.length o6.2.2.2.2.2.2.2.2)]), o6.2.2.1, o6.2.2.2.1, o6.2.2.2.2.1, o6.2.2.2.2.2.1, o6.2.2.2.2.2.2.1, cutL o6.2.2.2.2.2.2.2.1 o6.1 o6.2.1 ++ [Option.some (0 + List.length o6.2.2.2.2.2.2.2.2)], List.set (List.set (List.set (o6.2.2.2.2.2.2.2.2 ++ [(Go.IntKind.wrap .i64 (Int.tdiv t rg), 0, 0, false)]) o13 (o18.1, Prod.fst (S.madd o14.2.1 v), o18.2.2.1, o18.2.2.2)) o13 (o19.1, o19.2.1, Go.IntKind.wrap .i64 (o15.2.2.1 + 1), o19.2.2.2)) o13 (o20.1, o20.2.1, o20.2.2.1, true)))))
 else
   (optK ((o6.2.2.2.2.2.2.2.2 ++ [(Go.IntKind.wrap .i64 (Int.tdiv t rg), 0, 0, false)])[o13]?) fun o18 =>
   (optK ((List.set (o6.2.2.2.2.2.2.2.2 ++ [(Go.IntKind.wrap .i64 (Int.tdiv t rg), 0, 0, false)]) o13 (o18.1, Prod.fst (S.madd o14.2.1 v), o18.2.2.1, o18.2.2.2))[o13]?) fun o19 =>
   (optK ((List.set (List.set (o6.2.2.2.2.2.2.2.2 ++ [(Go.IntKind.wrap .i64 (Int.tdiv t rg), 0, 0, false)]) o13 (o18.1, Prod.fst (S.madd o14.2.1 v), o18.2.2.1, o18.2.2.2)) o13 (o19.1, o19.2.1, Go.IntKind.wrap .i64 (o15.2.2.1 + 1), o19.2.2.2))[o13]?) fun o20 =>
   (S.rp_gk l f lo len rw rg rn nw ov t v k) (0, 0, List.length (cutL o6.2.2.2.2.2.2.2.1 o6.1 o6.2.1 ++ [Option.some (0 + List.length o6.2.2.2.2.2.2.2.2)]), o6.2.2.1, o6.2.2.2.1, o6.2.2.2.2.1, o6.2.2.2.2.2.1, o6.2.2.2.2.2.2.1, cutL o6.2.2.2.2.2.2.2.1 o6.1 o6.2.1 ++ [Option.some (0 + List.length o6.2.2.2.2.2.2.2.2)], List.set (List.set (List.set (o6.2.2.2.2.2.2.2.2 ++ [(Go.IntKind.wrap .i64 (Int.tdiv t rg), 0, 0, false)]) o13 (o18.1, Prod.fst (S.madd o14.2.1 v), o18.2.2.1, o18.2.2.2)) o13 (o19.1, o19.2.1, Go.IntKind.wrap .i64 (o15.2.2.1 + 1), o19.2.2.2)) o13 (o20.1, o20.2.1, o20.2.2.1, !decide (Prod.snd (S.madd o14.2.1 v) = 0)))))))))))
 else
   none
 else
   none
 else
   bif inB o8 o6.2.1 then
   (optK (o6.2.2.2.2.2.2.2.1[Int.toNat o8 + o6.1]?) fun o11 =>
   (optK (o11) fun o12 =>
   (optK (o6.2.2.2.2.2.2.2.2[o12]?) fun o13 =>
   (optK (o6.2.2.2.2.2.2.2.2[o12]?) fun o14 =>
   (optK (o6.2.2.2.2.2.2.2.2[o12]?) fun o15 =>
   bif o15.2.2.2 then
   (optK (o6.2.2.2.2.2.2.2.2[o12]?) fun o17 =>
   (optK ((List.set o6.2.2.2.2.2.2.2.2 o12 (o17.1, Prod.fst (S.madd o13.2.1 v), o17.2.2.1, o17.2.2.2))[o12]?) fun o18 =>
   (optK ((List.set (List.set o6.2.2.2.2.2.2.2.2 o12 (o17.1, Prod.fst (S.madd o13.2.1 v), o17.2.2.1, o17.2.2.2)) o12 (o18.1, o18.2.1, Go.IntKind.wrap .i64 (o14.2.2.1 + 1), o18.2.2.2))[o12]?) fun o19 =>
   (S.rp_gk l f lo len rw rg rn nw ov t v k) (0, o6.1, o6.2.1, o6.2.2.1, o6.2.2.2.1, o6.2.2.2.2.1, o6.2.2.2.2.2.1, o6.2.2.2.2.2.2.1, o6.2.2.2.2.2.2.2.1, List.set (List.set (List.set o6.2.2.2.2.2.2.2.2 o12 (o17.1, Prod.fst (S.madd o13.2.1 v), o17.2.2.1, o17.2.2.2)) o12 (o18.1, o18.2.1, Go.IntKind.wrap .i64 (o14.2.2.1 + 1), o18.2.2.2)) o12 (o19.1, o19.2.1, o19.2.2.1, true)))))
 else
   (optK (o6.2.2.2.2.2.2.2.2[o12]?) fun o17 =>
   (optK ((List.set o6.2.2.2.2.2.2.2.2 o12 (o17.1, Prod.fst (S.madd o13.2.1 v), o17.2.2.1, o17.2.2.2))[o12]?) fun o18 =>
   (optK ((List.set (List.set o6.2.2.2.2.2.2.2.2 o12 (o17.1, Prod.fst (S.madd o13.2.1 v), o17.2.2.1, o17.2.2.2)) o12 (o18.1, o18.2.1, Go.IntKind.wrap .i64 (o14.2.2.1 + 1), o18.2.2.2))[o12]?) fun o19 =>
   (S.rp_gk l f lo len rw rg rn nw ov t v k) (0, o6.1, o6.2.1, o6.2.2.1, o6.2.2.2.1, o6.2.2.2.2.1, o6.2.2.2.2.2.1, o6.2.2.2.2.2.2.1, o6.2.2.2.2.2.2.2.1, List.set (List.set (List.set o6.2.2.2.2.2.2.2.2 o12 (o17.1, Prod.fst (S.madd o13.2.1 v), o17.2.2.1, o17.2.2.2)) o12 (o18.1, o18.2.1, Go.IntKind.wrap .i64 (o14.2.2.1 + 1), o18.2.2.2)) o12 (o19.1, o19.2.1, o19.2.2.1, !decide (Prod.snd (S.madd o13.2.1 v) = 0)))))))))))
 else
   none))) from by kernel_rfl).trans (bif_lift (f := (oK (S.rp_gk l f lo len rw rg rn nw ov t v k))) rfl (bif_lift (f := (oK (S.rp_gk l f lo len rw rg rn nw ov t v k))) rfl (bif_lift (f := (oK (S.rp_gk l f lo len rw rg rn nw ov t v k))) rfl (bif_lift (f := (oK (S.rp_gk l f lo len rw rg rn nw ov t v k))) rfl (opt_lift fun o6 => (bif_lift (f := (oK (S.rp_gk l f lo len rw rg rn nw ov t v k))) rfl (opt_lift fun o8 => (bif_lift (f := (oK (S.rp_gk l f lo len rw rg rn nw ov t v k))) (bif_lift (f := (oK (S.rp_gk l f lo len rw rg rn nw ov t v k))) (bif_lift (f := (oK (S.rp_gk l f lo len rw rg rn nw ov t v k))) (opt_lift fun o12 => (opt_lift fun o13 => (opt_lift fun o14 => (opt_lift fun o15 => (opt_lift fun o16 => (bif_lift (f := (oK (S.rp_gk l f lo len rw rg rn nw ov t v k))) (opt_lift fun o18 => (opt_lift fun o19 => (opt_lift fun o20 => rfl))) (opt_lift fun o18 => (opt_lift fun o19 => (opt_lift fun o20 => rfl))))))))) rfl) rfl) (bif_lift (f := (oK (S.rp_gk l f lo len rw rg rn nw ov t v k))) (opt_lift fun o11 => (opt_lift fun o12 => (opt_lift fun o13 => (opt_lift fun o14 => (opt_lift fun o15 => (bif_lift (f := (oK (S.rp_gk l f lo len rw rg rn nw ov t v k))) (opt_lift fun o17 => (opt_lift fun o18 => (opt_lift fun o19 => rfl))) (opt_lift fun o17 => (opt_lift fun o18 => (opt_lift fun o19 => rfl))))))))) rfl)))))))))
noncomputable def H76 : Hnd := fun R args σ k => match args, σ with
  | [.ptr 0 0 0, .int .i64 t, .int .i64 v], [.var [.slice 1 1 lo len none, .int .i64 rw, .int .i64 rg, .int .i64 rn, .int .i64 nw, .bool ov], .fam 135 (.pair (.int .i64) (.pair (.int .i64) (.pair (.int .i64) .bool))) l f] => oK (fun v : Int × Nat × Nat × Int × Int × Int × Int × Bool × List (Option Nat) × BL => k (.int .i64 v.1) [(.var [(.slice 1 2 v.2.1 v.2.2.1 none), (.int .i64 v.2.2.2.1), (.int .i64 v.2.2.2.2.1), (.int .i64 v.2.2.2.2.2.1), (.int .i64 v.2.2.2.2.2.2.1), (.bool v.2.2.2.2.2.2.2.1)]), .dead, (.fam 135 (Cd.pair (Cd.int .i64) (Cd.pair (Cd.int .i64) (Cd.pair (Cd.int .i64) Cd.bool))) v.2.2.2.2.2.2.2.2.1 v.2.2.2.2.2.2.2.2.2)]) (S.rp l f lo len rw rg rn nw ov t v)
  | _, _ => none
theorem H76_ok : HndOk Tryz.prog 76 H76 := hnd_ok tis tisOk mixOk G104_ok F76 Tryz.func76 rfl (by
  intro R args σ k r h
  unfold H76 at h
  split at h
  · rename_i t v lo len rw rg rn nw ov l f; exact ⟨0, (S.rp_v l f lo len rw rg rn nw ov t v _).trans h⟩
  · cases h)
noncomputable def G76 : Env := Env.add 76 H76 G104
theorem G76_ok : EnvOk Tryz.prog G76 := envAdd_ok H76_ok G104_ok

/-! (*ring.Ring).Sum -/
def F108 : FCfg := ⟨keepAt [(0, [0, 1]), (1, [0, 1, 20]), (2, [4, 5]), (3, [0, 6]), (4, [0, 6, 7, 8]), (5, [0, 6, 7, 8, 30, 31, 32]), (6, [0, 6, 7, 8, 30, 31, 32, 33]), (7, [0, 6, 7, 8, 10, 30, 31, 32]), (8, [0, 6, 7, 8, 11, 12, 30, 31, 32]), (9, [0, 6, 7, 8, 11, 30, 31, 32, 63]), (10, [0, 6, 8, 11, 13, 14, 30, 31, 32]), (11, [0, 6, 8, 11, 13, 30, 31, 32]), (12, [0, 6, 7, 8, 30, 31, 32]), (13, [0, 6, 7, 8, 30, 31, 32]), (14, [4, 5])], loopAt [(6, [0, 6, 7, 8, 30, 31, 32], [])], []⟩
noncomputable def C_rs (fu : Nat) (l : FL) (f : BL) (lo len : Nat) (rw rg rn nw : Int) (ov : Bool) (t : Int) : Cfg := Cfg.of tis F108 fu (List.length ([.var [.slice 1 1 lo len none, .int .i64 rw, .int .i64 rg, .int .i64 rn, .int .i64 nw, .bool ov], .fam 135 (.pair (.int .i64) (.pair (.int .i64) (.pair (.int .i64) .bool))) l f] : List Blk)) Tryz.f108.ntmps
noncomputable def S.rs_b0 : Code := codeAt (bodyOf Tryz.f108) [1, 1, 1, 1, 0, 1, 0, 0]
noncomputable def S.rs_s0 (l : FL) (f : BL) (lo len : Nat) (rw rg rn nw : Int) (ov : Bool) (t : Int) (y0 : Int) (y1 : Int) (y2 : Int) (y3 : Bool) : St := ⟨[(0, (.ptr 0 (0) 0)), (6, (.int .i64 (Go.IntKind.wrap .i64 (Int.tdiv t rg)))), (7, (.int .i64 (y0))), (8, (.int .i64 (y1))), (30, (.slice 1 1 (lo) (len) none)), (31, (.int .i64 (((len : Nat) : Int)))), (32, (.int .i64 (y2)))], [(.var [(.slice 1 1 (lo) (len) none), (.int .i64 (rw)), (.int .i64 (rg)), (.int .i64 (rn)), (.int .i64 (nw)), (.bool (y3))]), (.fam 135 (Cd.pair (Cd.int .i64) (Cd.pair (Cd.int .i64) (Cd.pair (Cd.int .i64) Cd.bool))) (l) (f))]⟩
noncomputable def S.rs_x0_0 (l : FL) (f : BL) (lo len : Nat) (rw rg rn nw : Int) (ov : Bool) (t : Int) (z0 : Int) (z1 : Int) (z2 : Int) (z3 : Bool) (z4 : Bool) : St := ⟨[(0, (.ptr 0 (0) 0)), (6, (.int .i64 (Go.IntKind.wrap .i64 (Int.tdiv t rg)))), (7, (.int .i64 (z0))), (8, (.int .i64 (z1))), (30, (.slice 1 1 (lo) (len) none)), (31, (.int .i64 (((len : Nat) : Int)))), (32, (.int .i64 (z2))), (33, (.bool (z3)))], [(.var [(.slice 1 1 (lo) (len) none), (.int .i64 (rw)), (.int .i64 (rg)), (.int .i64 (rn)), (.int .i64 (nw)), (.bool (z4))]), (.fam 135 (Cd.pair (Cd.int .i64) (Cd.pair (Cd.int .i64) (Cd.pair (Cd.int .i64) Cd.bool))) (l) (f))]⟩
noncomputable def S.rs_g0 {R : Type} (l : FL) (f : BL) (lo len : Nat) (rw rg rn nw : Int) (ov : Bool) (t : Int) (K : Ex → St → Option R) : ((Int × Int × Int × Bool × Bool)) → Option R := (fun z : Int × Int × Int × Bool × Bool => K (Ex.exit 0) (S.rs_x0_0 l f lo len rw rg rn nw ov t (z.1) (z.2.1) (z.2.2.1) (z.2.2.2.1) (z.2.2.2.2)))
noncomputable def S.rs_gk {R : Type} (l : FL) (f : BL) (lo len : Nat) (rw rg rn nw : Int) (ov : Bool) (t : Int) (k : AVal → List Blk → Option R) : (Int × Int × Nat × Nat × Int × Int × Int × Int × Bool × List (Option Nat) × BL) → Option R := (fun v : Int × Int × Nat × Nat × Int × Int × Int × Int × Bool × List (Option Nat) × BL => k (.tuple [(.int .i64 v.1), (.int .i64 v.2.1)]) [(.var [(.slice 1 1 v.2.2.1 v.2.2.2.1 none), (.int .i64 v.2.2.2.2.1), (.int .i64 v.2.2.2.2.2.1), (.int .i64 v.2.2.2.2.2.2.1), (.int .i64 v.2.2.2.2.2.2.2.1), (.bool v.2.2.2.2.2.2.2.2.1)]), (.fam 135 (Cd.pair (Cd.int .i64) (Cd.pair (Cd.int .i64) (Cd.pair (Cd.int .i64) Cd.bool))) v.2.2.2.2.2.2.2.2.2.1 v.2.2.2.2.2.2.2.2.2.2)])
theorem S.rs_l0_k {R : Type} (fu : Nat) (l : FL) (f : BL) (lo len : Nat) (rw rg rn nw : Int) (ov : Bool) (t : Int) (n : Nat) (K : Ex → St → Option R) (y0 : Int) (y1 : Int) (y2 : Int) (y3 : Bool) : loopRun (C_rs fu l f lo len rw rg rn nw ov t) G76 S.rs_b0 (n + 1) (S.rs_s0 l f lo len rw rg rn nw ov t (y0) (y1) (y2) (y3)) K =
  (bif decide (y2 < ((len : Nat) : Int)) then
   bif inB y2 len then
   (optK (l[Int.toNat y2 + lo]?) fun o4 =>
   (optC (o4) (loopRun (C_rs fu l f lo len rw rg rn nw ov t) G76 S.rs_b0 n (S.rs_s0 l f lo len rw rg rn nw ov t (y0) (y1) (Go.IntKind.wrap .i64 (y2 + 1)) (y3)) K) fun o5 =>
   (optK (f[o5]?) fun o6 =>
   bif decide (Go.IntKind.wrap .i64 (Int.tdiv t rg) < o6.1) then
   loopRun (C_rs fu l f lo len rw rg rn nw ov t) G76 S.rs_b0 n (S.rs_s0 l f lo len rw rg rn nw ov t (y0) (y1) (Go.IntKind.wrap .i64 (y2 + 1)) (y3)) K
 else
   (optK (f[o5]?) fun o8 =>
   bif decide (rn ≤ Go.IntKind.wrap .i64 (Go.IntKind.wrap .i64 (Int.tdiv t rg) - o8.1)) then
   loopRun (C_rs fu l f lo len rw rg rn nw ov t) G76 S.rs_b0 n (S.rs_s0 l f lo len rw rg rn nw ov t (y0) (y1) (Go.IntKind.wrap .i64 (y2 + 1)) (y3)) K
 else
   (optK (f[o5]?) fun o10 =>
   bif y3 then
   (optK (f[o5]?) fun o12 =>
   loopRun (C_rs fu l f lo len rw rg rn nw ov t) G76 S.rs_b0 n (S.rs_s0 l f lo len rw rg rn nw ov t (Prod.fst (S.madd y0 o10.2.1)) (Go.IntKind.wrap .i64 (y1 + o12.2.2.1)) (Go.IntKind.wrap .i64 (y2 + 1)) (true)) K)
 else
   (optK (f[o5]?) fun o12 =>
   bif o12.2.2.2 then
   (optK (f[o5]?) fun o14 =>
   loopRun (C_rs fu l f lo len rw rg rn nw ov t) G76 S.rs_b0 n (S.rs_s0 l f lo len rw rg rn nw ov t (Prod.fst (S.madd y0 o10.2.1)) (Go.IntKind.wrap .i64 (y1 + o14.2.2.1)) (Go.IntKind.wrap .i64 (y2 + 1)) (true)) K)
 else
   (optK (f[o5]?) fun o14 =>
   loopRun (C_rs fu l f lo len rw rg rn nw ov t) G76 S.rs_b0 n (S.rs_s0 l f lo len rw rg rn nw ov t (Prod.fst (S.madd y0 o10.2.1)) (Go.IntKind.wrap .i64 (y1 + o14.2.2.1)) (Go.IntKind.wrap .i64 (y2 + 1)) (!decide (Prod.snd (S.madd y0 o10.2.1) = 0))) K)))))))
 else
   none
 else
   K (Ex.exit 0) (S.rs_x0_0 l f lo len rw rg rn nw ov t (y0) (y1) (y2) (decide (y2 < ((len : Nat) : Int))) (y3))) := by kernel_rfl
noncomputable def S.rs_l0 (fu : Nat) (l : FL) (f : BL) (lo len : Nat) (rw rg rn nw : Int) (ov : Bool) (t : Int) : Nat → (Int) → (Int) → (Int) → (Bool) → Option ((Int × Int × Int × Bool × Bool))
  | 0, _, _, _, _ => none
  | n + 1, y0, y1, y2, y3 =>
    bif decide (y2 < ((len : Nat) : Int)) then
   bif inB y2 len then
   (optK (l[Int.toNat y2 + lo]?) fun o4 =>
   (optC (o4) ((S.rs_l0 fu l f lo len rw rg rn nw ov t n) (y0) (y1) (Go.IntKind.wrap .i64 (y2 + 1)) (y3)) fun o5 =>
   (optK (f[o5]?) fun o6 =>
   bif decide (Go.IntKind.wrap .i64 (Int.tdiv t rg) < o6.1) then
   (S.rs_l0 fu l f lo len rw rg rn nw ov t n) (y0) (y1) (Go.IntKind.wrap .i64 (y2 + 1)) (y3)
 else
   (optK (f[o5]?) fun o8 =>
   bif decide (rn ≤ Go.IntKind.wrap .i64 (Go.IntKind.wrap .i64 (Int.tdiv t rg) - o8.1)) then
   (S.rs_l0 fu l f lo len rw rg rn nw ov t n) (y0) (y1) (Go.IntKind.wrap .i64 (y2 + 1)) (y3)
 else
   (optK (f[o5]?) fun o10 =>
   bif y3 then
   (optK (f[o5]?) fun o12 =>
   (S.rs_l0 fu l f lo len rw rg rn nw ov t n) (Prod.fst (S.madd y0 o10.2.1)) (Go.IntKind.wrap .i64 (y1 + o12.2.2.1)) (Go.IntKind.wrap .i64 (y2 + 1)) (true))
 else
   (optK (f[o5]?) fun o12 =>
   bif o12.2.2.2 then
   (optK (f[o5]?) fun o14 =>
   (S.rs_l0 fu l f lo len rw rg rn nw ov t n) (Prod.fst (S.madd y0 o10.2.1)) (Go.IntKind.wrap .i64 (y1 + o14.2.2.1)) (Go.IntKind.wrap .i64 (y2 + 1)) (true))
 else
   (optK (f[o5]?) fun o14 =>
   (S.rs_l0 fu l f lo len rw rg rn nw ov t n) (Prod.fst (S.madd y0 o10.2.1)) (Go.IntKind.wrap .i64 (y1 + o14.2.2.1)) (Go.IntKind.wrap .i64 (y2 + 1)) (!decide (Prod.snd (S.madd y0 o10.2.1) = 0)))))))))
 else
   none
 else
   some (y0, y1, y2, decide (y2 < ((len : Nat) : Int)), y3)
theorem S.rs_l0_v {R : Type} (fu : Nat) (l : FL) (f : BL) (lo len : Nat) (rw rg rn nw : Int) (ov : Bool) (t : Int) (K : Ex → St → Option R) : ∀ (n : Nat) (y0 : Int) (y1 : Int) (y2 : Int) (y3 : Bool), loopRun (C_rs fu l f lo len rw rg rn nw ov t) G76 S.rs_b0 n (S.rs_s0 l f lo len rw rg rn nw ov t (y0) (y1) (y2) (y3)) K = oK (β := (Int × Int × Int × Bool × Bool)) (S.rs_g0 l f lo len rw rg rn nw ov t K) (S.rs_l0 fu l f lo len rw rg rn nw ov t n y0 y1 y2 y3)
  | 0, _, _, _, _ => rfl
  | n + 1, y0, y1, y2, y3 => (S.rs_l0_k fu l f lo len rw rg rn nw ov t n K y0 y1 y2 y3).trans (bif_lift (f := (oK (S.rs_g0 l f lo len rw rg rn nw ov t K))) (bif_lift (f := (oK (S.rs_g0 l f lo len rw rg rn nw ov t K))) (opt_lift fun o4 => (optC_lift (f := (oK (S.rs_g0 l f lo len rw rg rn nw ov t K))) (S.rs_l0_v fu l f lo len rw rg rn nw ov t K n (y0) (y1) (Go.IntKind.wrap .i64 (y2 + 1)) (y3)) fun o5 => (opt_lift fun o6 => (bif_lift (f := (oK (S.rs_g0 l f lo len rw rg rn nw ov t K))) (S.rs_l0_v fu l f lo len rw rg rn nw ov t K n (y0) (y1) (Go.IntKind.wrap .i64 (y2 + 1)) (y3)) (opt_lift fun o8 => (bif_lift (f := (oK (S.rs_g0 l f lo len rw rg rn nw ov t K))) (S.rs_l0_v fu l f lo len rw rg rn nw ov t K n (y0) (y1) (Go.IntKind.wrap .i64 (y2 + 1)) (y3)) (opt_lift fun o10 => (bif_lift (f := (oK (S.rs_g0 l f lo len rw rg rn nw ov t K))) (opt_lift fun o12 => (S.rs_l0_v fu l f lo len rw rg rn nw ov t K n (Prod.fst (S.madd y0 o10.2.1)) (Go.IntKind.wrap .i64 (y1 + o12.2.2.1)) (Go.IntKind.wrap .i64 (y2 + 1)) (true))) (opt_lift fun o12 => (bif_lift (f := (oK (S.rs_g0 l f lo len rw rg rn nw ov t K))) (opt_lift fun o14 => (S.rs_l0_v fu l f lo len rw rg rn nw ov t K n (Prod.fst (S.madd y0 o10.2.1)) (Go.IntKind.wrap .i64 (y1 + o14.2.2.1)) (Go.IntKind.wrap .i64 (y2 + 1)) (true))) (opt_lift fun o14 => (S.rs_l0_v fu l f lo len rw rg rn nw ov t K n (Prod.fst (S.madd y0 o10.2.1)) (Go.IntKind.wrap .i64 (y1 + o14.2.2.1)) (Go.IntKind.wrap .i64 (y2 + 1)) (!decide (Prod.snd (S.madd y0 o10.2.1) = 0)))))))))))))) rfl) rfl)
noncomputable def S.rs_a0_0 (fu : Nat) (l : FL) (f : BL) (lo len : Nat) (rw rg rn nw : Int) (ov : Bool) (t : Int) (z0 : Int) (z1 : Int) (z2 : Int) (z3 : Bool) (z4 : Bool) : Option (Int × Int × Nat × Nat × Int × Int × Int × Int × Bool × List (Option Nat) × BL) :=
  some (z0, z1, lo, len, rw, rg, rn, nw, z4, l, f)
theorem S.rs_a0_0_v {R : Type} (fu : Nat) (l : FL) (f : BL) (lo len : Nat) (rw rg rn nw : Int) (ov : Bool) (t : Int) (z0 : Int) (z1 : Int) (z2 : Int) (z3 : Bool) (z4 : Bool) (k : AVal → List Blk → Option R) : contOf (C_rs fu l f lo len rw rg rn nw ov t) G76 (bodyOf Tryz.f108) [1, 1, 1, 1, 0, 1, 0] (retK tis F108 Tryz.f108 (List.length ([.var [.slice 1 1 lo len none, .int .i64 rw, .int .i64 rg, .int .i64 rn, .int .i64 nw, .bool ov], .fam 135 (.pair (.int .i64) (.pair (.int .i64) (.pair (.int .i64) .bool))) l f] : List Blk)) k) (Ex.exit 0) (S.rs_x0_0 l f lo len rw rg rn nw ov t (z0) (z1) (z2) (z3) (z4)) = oK (S.rs_gk l f lo len rw rg rn nw ov t k) (S.rs_a0_0 fu l f lo len rw rg rn nw ov t z0 z1 z2 z3 z4) :=
  (show contOf (C_rs fu l f lo len rw rg rn nw ov t) G76 (bodyOf Tryz.f108) [1, 1, 1, 1, 0, 1, 0] (retK tis F108 Tryz.f108 (List.length ([.var [.slice 1 1 lo len none, .int .i64 rw, .int .i64 rg, .int .i64 rn, .int .i64 nw, .bool ov], .fam 135 (.pair (.int .i64) (.pair (.int .i64) (.pair (.int .i64) .bool))) l f] : List Blk)) k) (Ex.exit 0) (S.rs_x0_0 l f lo len rw rg rn nw ov t (z0) (z1) (z2) (z3) (z4)) =
  ((S.rs_gk l f lo len rw rg rn nw ov t k) (z0, z1, lo, len, rw, rg, rn, nw, z4, l, f)) from by kernel_rfl).trans rfl
noncomputable def S.rs_L {R : Type} (fu : Nat) (l : FL) (f : BL) (lo len : Nat) (rw rg rn nw : Int) (ov : Bool) (t : Int) (k : AVal → List Blk → Option R) : Option R := fnEval tis F108 fu G76 Tryz.f108 [.ptr 0 0 0, .int .i64 t] [.var [.slice 1 1 lo len none, .int .i64 rw, .int .i64 rg, .int .i64 rn, .int .i64 nw, .bool ov], .fam 135 (.pair (.int .i64) (.pair (.int .i64) (.pair (.int .i64) .bool))) l f] k
noncomputable def S.rs (fu : Nat) (l : FL) (f : BL) (lo len : Nat) (rw rg rn nw : Int) (ov : Bool) (t : Int) : Option (Int × Int × Nat × Nat × Int × Int × Int × Int × Bool × List (Option Nat) × BL) :=
  bif decide (t < 0) then
   some (0, 0, lo, len, rw, rg, rn, nw, ov, l, f)
 else
   bif decide (rg = 0) then
   none
 else
   optK (S.rs_l0 fu l f lo len rw rg rn nw ov t fu (0) (0) (0) (ov)) (fun z : Int × Int × Int × Bool × Bool => S.rs_a0_0 fu l f lo len rw rg rn nw ov t (z.1) (z.2.1) (z.2.2.1) (z.2.2.2.1) (z.2.2.2.2))
theorem S.rs_v {R : Type} (fu : Nat) (l : FL) (f : BL) (lo len : Nat) (rw rg rn nw : Int) (ov : Bool) (t : Int) (k : AVal → List Blk → Option R) : S.rs_L fu l f lo len rw rg rn nw ov t k = oK (S.rs_gk l f lo len rw rg rn nw ov t k) (S.rs fu l f lo len rw rg rn nw ov t) :=
  (show S.rs_L fu l f lo len rw rg rn nw ov t k =
  (bif decide (t < 0) then
   (S.rs_gk l f lo len rw rg rn nw ov t k) (0, 0, lo, len, rw, rg, rn, nw, ov, l, f)
 else
   bif decide (rg = 0) then
   none
 else
   loopRun (C_rs fu l f lo len rw rg rn nw ov t) G76 S.rs_b0 fu (S.rs_s0 l f lo len rw rg rn nw ov t (0) (0) (0) (ov)) (contOf (C_rs fu l f lo len rw rg rn nw ov t) G76 (bodyOf Tryz.f108) [1, 1, 1, 1, 0, 1, 0] (retK tis F108 Tryz.f108 (List.length ([.var [.slice 1 1 lo len none, .int .i64 rw, .int .i64 rg, .int .i64 rn, .int .i64 nw, .bool ov], .fam 135 (.pair (.int .i64) (.pair (.int .i64) (.pair (.int .i64) .bool))) l f] : List Blk)) k))) from by kernel_rfl).trans (bif_lift (f := (oK (S.rs_gk l f lo len rw rg rn nw ov t k))) rfl (bif_lift (f := (oK (S.rs_gk l f lo len rw rg rn nw ov t k))) rfl (arr_lift (S.rs_l0_v fu l f lo len rw rg rn nw ov t (contOf (C_rs fu l f lo len rw rg rn nw ov t) G76 (bodyOf Tryz.f108) [1, 1, 1, 1, 0, 1, 0] (retK tis F108 Tryz.f108 (List.length ([.var [.slice 1 1 lo len none, .int .i64 rw, .int .i64 rg, .int .i64 rn, .int .i64 nw, .bool ov], .fam 135 (.pair (.int .i64) (.pair (.int .i64) (.pair (.int .i64) .bool))) l f] : List Blk)) k)) fu (0) (0) (0) (ov)) ((fun z => S.rs_a0_0_v fu l f lo len rw rg rn nw ov t (z.1) (z.2.1) (z.2.2.1) (z.2.2.2.1) (z.2.2.2.2) k)))))
noncomputable def H108 : Hnd := fun R args σ k => match args, σ with
  | [.ptr 0 0 0, .int .i64 t], [.var [.slice 1 1 lo len none, .int .i64 rw, .int .i64 rg, .int .i64 rn, .int .i64 nw, .bool ov], .fam 135 (.pair (.int .i64) (.pair (.int .i64) (.pair (.int .i64) .bool))) l f] => oK (fun v : Int × Int × Nat × Nat × Int × Int × Int × Int × Bool × List (Option Nat) × BL => k (.tuple [(.int .i64 v.1), (.int .i64 v.2.1)]) [(.var [(.slice 1 1 v.2.2.1 v.2.2.2.1 none), (.int .i64 v.2.2.2.2.1), (.int .i64 v.2.2.2.2.2.1), (.int .i64 v.2.2.2.2.2.2.1), (.int .i64 v.2.2.2.2.2.2.2.1), (.bool v.2.2.2.2.2.2.2.2.1)]), (.fam 135 (Cd.pair (Cd.int .i64) (Cd.pair (Cd.int .i64) (Cd.pair (Cd.int .i64) Cd.bool))) v.2.2.2.2.2.2.2.2.2.1 v.2.2.2.2.2.2.2.2.2.2)]) (S.rs 100000 l f lo len rw rg rn nw ov t)
  | _, _ => none
theorem H108_ok : HndOk Tryz.prog 108 H108 := hnd_ok tis tisOk mixOk G76_ok F108 Tryz.func108 rfl (by
  intro R args σ k r h
  unfold H108 at h
  split at h
  · rename_i t lo len rw rg rn nw ov l f; exact ⟨100000, (S.rs_v 100000 l f lo len rw rg rn nw ov t _).trans h⟩
  · cases h)
noncomputable def G108 : Env := Env.add 108 H108 G76
theorem G108_ok : EnvOk Tryz.prog G108 := envAdd_ok H108_ok G76_ok

/-! (*ring.Ring).Mean -/
def F82 : FCfg := ⟨keepAt [(0, [0, 1]), (1, [5, 6]), (2, [5, 6, 14]), (3, [4]), (4, [4])], loopAt [], []⟩
noncomputable def S.rm_L {R : Type} (l : FL) (f : BL) (lo len : Nat) (rw rg rn nw : Int) (ov : Bool) (t : Int) (k : AVal → List Blk → Option R) : Option R := fnEval tis F82 0 G108 Tryz.f82 [.ptr 0 0 0, .int .i64 t] [.var [.slice 1 1 lo len none, .int .i64 rw, .int .i64 rg, .int .i64 rn, .int .i64 nw, .bool ov], .fam 135 (.pair (.int .i64) (.pair (.int .i64) (.pair (.int .i64) .bool))) l f] k
noncomputable def S.rm_gk {R : Type} (l : FL) (f : BL) (lo len : Nat) (rw rg rn nw : Int) (ov : Bool) (t : Int) (k : AVal → List Blk → Option R) : (Int × Nat × Nat × Int × Int × Int × Int × Bool × List (Option Nat) × List (Int × Int × Int × Bool)) → Option R := (fun v : Int × Nat × Nat × Int × Int × Int × Int × Bool × List (Option Nat) × List (Int × Int × Int × Bool) => k (.int .i64 v.1) [(.var [(.slice 1 1 v.2.1 v.2.2.1 none), (.int .i64 v.2.2.2.1), (.int .i64 v.2.2.2.2.1), (.int .i64 v.2.2.2.2.2.1), (.int .i64 v.2.2.2.2.2.2.1), (.bool v.2.2.2.2.2.2.2.1)]), (.fam 135 (Cd.pair (Cd.int .i64) (Cd.pair (Cd.int .i64) (Cd.pair (Cd.int .i64) Cd.bool))) v.2.2.2.2.2.2.2.2.1 v.2.2.2.2.2.2.2.2.2)])
noncomputable def S.rm (l : FL) (f : BL) (lo len : Nat) (rw rg rn nw : Int) (ov : Bool) (t : Int) : Option (Int × Nat × Nat × Int × Int × Int × Int × Bool × List (Option Nat) × List (Int × Int × Int × Bool)) :=
  (optK (S.rs 100000 l f lo len rw rg rn nw ov t) fun o2 =>
   bif decide (o2.2.1 = 0) then
   some (0, o2.2.2.1, o2.2.2.2.1, o2.2.2.2.2.1, o2.2.2.2.2.2.1, o2.2.2.2.2.2.2.1, o2.2.2.2.2.2.2.2.1, o2.2.2.2.2.2.2.2.2.1, o2.2.2.2.2.2.2.2.2.2.1, o2.2.2.2.2.2.2.2.2.2.2)
 else
   bif decide (o2.2.1 = 0) then
   none
 else
   some (Go.IntKind.wrap .i64 (Int.tdiv o2.1 o2.2.1), o2.2.2.1, o2.2.2.2.1, o2.2.2.2.2.1, o2.2.2.2.2.2.1, o2.2.2.2.2.2.2.1, o2.2.2.2.2.2.2.2.1, o2.2.2.2.2.2.2.2.2.1, o2.2.2.2.2.2.2.2.2.2.1, o2.2.2.2.2.2.2.2.2.2.2))
theorem S.rm_v {R : Type} (l : FL) (f : BL) (lo len : Nat) (rw rg rn nw : Int) (ov : Bool) (t : Int) (k : AVal → List Blk → Option R) : S.rm_L l f lo len rw rg rn nw ov t k = oK (S.rm_gk l f lo len rw rg rn nw ov t k) (S.rm l f lo len rw rg rn nw ov t) :=
  (show S.rm_L l f lo len rw rg rn nw ov t k =
  ((optK (S.rs 100000 l f lo len rw rg rn nw ov t) fun o2 =>
   bif decide (o2.2.1 = 0) then
   (S.rm_gk l f lo len rw rg rn nw ov t k) (0, o2.2.2.1, o2.2.2.2.1, o2.2.2.2.2.1, o2.2.2.2.2.2.1, o2.2.2.2.2.2.2.1, o2.2.2.2.2.2.2.2.1, o2.2.2.2.2.2.2.2.2.1, o2.2.2.2.2.2.2.2.2.2.1, o2.2.2.2.2.2.2.2.2.2.2)
 else
   bif decide (o2.2.1 = 0) then
   none
 else
   (S.rm_gk l f lo len rw rg rn nw ov t k) (Go.IntKind.wrap .i64 (Int.tdiv o2.1 o2.2.1), o2.2.2.1, o2.2.2.2.1, o2.2.2.2.2.1, o2.2.2.2.2.2.1, o2.2.2.2.2.2.2.1, o2.2.2.2.2.2.2.2.1, o2.2.2.2.2.2.2.2.2.1, o2.2.2.2.2.2.2.2.2.2.1, o2.2.2.2.2.2.2.2.2.2.2))) from by kernel_rfl).trans (opt_lift fun o2 => (bif_lift (f := (oK (S.rm_gk l f lo len rw rg rn nw ov t k))) rfl (bif_lift (f := (oK (S.rm_gk l f lo len rw rg rn nw ov t k))) rfl rfl)))
noncomputable def H82 : Hnd := fun R args σ k => match args, σ with
  | [.ptr 0 0 0, .int .i64 t], [.var [.slice 1 1 lo len none, .int .i64 rw, .int .i64 rg, .int .i64 rn, .int .i64 nw, .bool ov], .fam 135 (.pair (.int .i64) (.pair (.int .i64) (.pair (.int .i64) .bool))) l f] => oK (fun v : Int × Nat × Nat × Int × Int × Int × Int × Bool × List (Option Nat) × List (Int × Int × Int × Bool) => k (.int .i64 v.1) [(.var [(.slice 1 1 v.2.1 v.2.2.1 none), (.int .i64 v.2.2.2.1), (.int .i64 v.2.2.2.2.1), (.int .i64 v.2.2.2.2.2.1), (.int .i64 v.2.2.2.2.2.2.1), (.bool v.2.2.2.2.2.2.2.1)]), (.fam 135 (Cd.pair (Cd.int .i64) (Cd.pair (Cd.int .i64) (Cd.pair (Cd.int .i64) Cd.bool))) v.2.2.2.2.2.2.2.2.1 v.2.2.2.2.2.2.2.2.2)]) (S.rm l f lo len rw rg rn nw ov t)
  | _, _ => none
theorem H82_ok : HndOk Tryz.prog 82 H82 := hnd_ok tis tisOk mixOk G108_ok F82 Tryz.func82 rfl (by
  intro R args σ k r h
  unfold H82 at h
  split at h
  · rename_i t lo len rw rg rn nw ov l f; exact ⟨0, (S.rm_v l f lo len rw rg rn nw ov t _).trans h⟩
  · cases h)
noncomputable def G82 : Env := Env.add 82 H82 G108
theorem G82_ok : EnvOk Tryz.prog G82 := envAdd_ok H82_ok G108_ok

/-! (*ring.Ring).Resize -/
def F80 : FCfg := ⟨keepAt [(0, [0, 1]), (1, [0, 1, 5]), (2, [4]), (3, [0, 1, 8]), (4, [4]), (5, [0]), (6, []), (7, [4])], loopAt [], []⟩
noncomputable def S.rr_L {R : Type} (l : FL) (f : BL) (lo len : Nat) (rw rg rn nw : Int) (ov : Bool) (w : Int) (k : AVal → List Blk → Option R) : Option R := fnEval tis F80 0 G82 Tryz.f80 [.ptr 0 0 0, .int .i64 w] [.var [.slice 1 1 lo len none, .int .i64 rw, .int .i64 rg, .int .i64 rn, .int .i64 nw, .bool ov], .fam 135 (.pair (.int .i64) (.pair (.int .i64) (.pair (.int .i64) .bool))) l f] k
noncomputable def S.rr_gk {R : Type} (l : FL) (f : BL) (lo len : Nat) (rw rg rn nw : Int) (ov : Bool) (w : Int) (k : AVal → List Blk → Option R) : (Int × Nat × Nat × Int × Int × Int × Int × Bool × List (Option Nat) × BL) → Option R := (fun v : Int × Nat × Nat × Int × Int × Int × Int × Bool × List (Option Nat) × BL => k (.int .i64 v.1) [(.var [(.slice 1 1 v.2.1 v.2.2.1 none), (.int .i64 v.2.2.2.1), (.int .i64 v.2.2.2.2.1), (.int .i64 v.2.2.2.2.2.1), (.int .i64 v.2.2.2.2.2.2.1), (.bool v.2.2.2.2.2.2.2.1)]), (.fam 135 (Cd.pair (Cd.int .i64) (Cd.pair (Cd.int .i64) (Cd.pair (Cd.int .i64) Cd.bool))) v.2.2.2.2.2.2.2.2.1 v.2.2.2.2.2.2.2.2.2)])
noncomputable def S.rr (l : FL) (f : BL) (lo len : Nat) (rw rg rn nw : Int) (ov : Bool) (w : Int) : Option (Int × Nat × Nat × Int × Int × Int × Int × Bool × List (Option Nat) × BL) :=
  bif decide (w < rg) then
   some (1, lo, len, rw, rg, rn, nw, ov, l, f)
 else
   bif decide (600 < w) then
   some (1, lo, len, rw, rg, rn, nw, ov, l, f)
 else
   (optK (S.pbuckets w rg) fun o4 =>
   (optK (S.rgo l f lo len w rg o4 nw ov) fun o5 =>
   some (0, o5.1, o5.2.1, o5.2.2.1, o5.2.2.2.1, o5.2.2.2.2.1, o5.2.2.2.2.2.1, o5.2.2.2.2.2.2.1, o5.2.2.2.2.2.2.2.1, o5.2.2.2.2.2.2.2.2)))
theorem S.rr_v {R : Type} (l : FL) (f : BL) (lo len : Nat) (rw rg rn nw : Int) (ov : Bool) (w : Int) (k : AVal → List Blk → Option R) : S.rr_L l f lo len rw rg rn nw ov w k = oK (S.rr_gk l f lo len rw rg rn nw ov w k) (S.rr l f lo len rw rg rn nw ov w) :=
  (show S.rr_L l f lo len rw rg rn nw ov w k =
  (bif decide (w < rg) then
   (S.rr_gk l f lo len rw rg rn nw ov w k) (1, lo, len, rw, rg, rn, nw, ov, l, f)
 else
   bif decide (600 < w) then
   (S.rr_gk l f lo len rw rg rn nw ov w k) (1, lo, len, rw, rg, rn, nw, ov, l, f)
 else
   (optK (S.pbuckets w rg) fun o4 =>
   (optK (S.rgo l f lo len w rg o4 nw ov) fun o5 =>
   (S.rr_gk l f lo len rw rg rn nw ov w k) (0, o5.1, o5.2.1, o5.2.2.1, o5.2.2.2.1, o5.2.2.2.2.1, o5.2.2.2.2.2.1, o5.2.2.2.2.2.2.1, o5.2.2.2.2.2.2.2.1, o5.2.2.2.2.2.2.2.2)))) from by kernel_rfl).trans (bif_lift (f := (oK (S.rr_gk l f lo len rw rg rn nw ov w k))) rfl (bif_lift (f := (oK (S.rr_gk l f lo len rw rg rn nw ov w k))) rfl (opt_lift fun o4 => (opt_lift fun o5 => rfl))))
noncomputable def H80 : Hnd := fun R args σ k => match args, σ with
  | [.ptr 0 0 0, .int .i64 w], [.var [.slice 1 1 lo len none, .int .i64 rw, .int .i64 rg, .int .i64 rn, .int .i64 nw, .bool ov], .fam 135 (.pair (.int .i64) (.pair (.int .i64) (.pair (.int .i64) .bool))) l f] => oK (fun v : Int × Nat × Nat × Int × Int × Int × Int × Bool × List (Option Nat) × BL => k (.int .i64 v.1) [(.var [(.slice 1 1 v.2.1 v.2.2.1 none), (.int .i64 v.2.2.2.1), (.int .i64 v.2.2.2.2.1), (.int .i64 v.2.2.2.2.2.1), (.int .i64 v.2.2.2.2.2.2.1), (.bool v.2.2.2.2.2.2.2.1)]), (.fam 135 (Cd.pair (Cd.int .i64) (Cd.pair (Cd.int .i64) (Cd.pair (Cd.int .i64) Cd.bool))) v.2.2.2.2.2.2.2.2.1 v.2.2.2.2.2.2.2.2.2)]) (S.rr l f lo len rw rg rn nw ov w)
  | _, _ => none
theorem H80_ok : HndOk Tryz.prog 80 H80 := hnd_ok tis tisOk mixOk G82_ok F80 Tryz.func80 rfl (by
  intro R args σ k r h
  unfold H80 at h
  split at h
  · rename_i w lo len rw rg rn nw ov l f; exact ⟨0, (S.rr_v l f lo len rw rg rn nw ov w _).trans h⟩
  · cases h)
noncomputable def G80 : Env := Env.add 80 H80 G82
theorem G80_ok : EnvOk Tryz.prog G80 := envAdd_ok H80_ok G82_ok

/-! (*ring.Ring).Over -/
def F95 : FCfg := ⟨keepAt [(0, [0]), (1, [2])], loopAt [], []⟩
noncomputable def S.ro_L {R : Type} (l : FL) (f : BL) (lo len : Nat) (rw rg rn nw : Int) (ov : Bool) (k : AVal → List Blk → Option R) : Option R := fnEval tis F95 0 G80 Tryz.f95 [.ptr 0 0 0] [.var [.slice 1 1 lo len none, .int .i64 rw, .int .i64 rg, .int .i64 rn, .int .i64 nw, .bool ov], .fam 135 (.pair (.int .i64) (.pair (.int .i64) (.pair (.int .i64) .bool))) l f] k
noncomputable def S.ro (l : FL) (f : BL) (lo len : Nat) (rw rg rn nw : Int) (ov : Bool) : Bool :=
  (ov)
theorem S.ro_v {R : Type} (l : FL) (f : BL) (lo len : Nat) (rw rg rn nw : Int) (ov : Bool) (k : AVal → List Blk → Option R) : S.ro_L l f lo len rw rg rn nw ov k = k (.bool (S.ro l f lo len rw rg rn nw ov)) [.var [.slice 1 1 lo len none, .int .i64 rw, .int .i64 rg, .int .i64 rn, .int .i64 nw, .bool ov], .fam 135 (.pair (.int .i64) (.pair (.int .i64) (.pair (.int .i64) .bool))) l f] :=
  (show S.ro_L l f lo len rw rg rn nw ov k =
  (k (.bool ov) ([.var [.slice 1 1 lo len Option.none, .int .i64 rw, .int .i64 rg, .int .i64 rn, .int .i64 nw, .bool ov], .fam 135 (Cd.pair (Cd.int .i64) (Cd.pair (Cd.int .i64) (Cd.pair (Cd.int .i64) Cd.bool))) l f])) from by kernel_rfl).trans rfl
noncomputable def H95 : Hnd := fun R args σ k => match args, σ with
  | [.ptr 0 0 0], [.var [.slice 1 1 lo len none, .int .i64 rw, .int .i64 rg, .int .i64 rn, .int .i64 nw, .bool ov], .fam 135 (.pair (.int .i64) (.pair (.int .i64) (.pair (.int .i64) .bool))) l f] => k (.bool (S.ro l f lo len rw rg rn nw ov)) []
  | _, _ => none
theorem H95_ok : HndOk Tryz.prog 95 H95 := hnd_ok_pure tis tisOk mixOk G80_ok F95 Tryz.func95 rfl (by
  intro R args σ k r h
  unfold H95 at h
  split at h
  · rename_i lo len rw rg rn nw ov l f; exact ⟨0, (S.ro_v l f lo len rw rg rn nw ov _).trans ((if_pos rfl).trans h)⟩
  · cases h)
noncomputable def G95 : Env := Env.add 95 H95 G80
theorem G95_ok : EnvOk Tryz.prog G95 := envAdd_ok H95_ok G80_ok
end Go.Proofs.YtdgipcjigbagfaaGreat.AB
