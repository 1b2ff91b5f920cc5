/- The document's functions of layer 15, as plain functions. -/
import Derived.Test.YtfoaihjkmfhaoaaSdelay
namespace Go.Proofs.Ytfoaihjkmfhaoaa.AB
set_option linter.unusedVariables false
abbrev RL : Type := List (Int × Int)

/-! spinnakerref12.NewDelay -/
def F32 : FCfg := ⟨keepAt [(0, [0]), (1, [0, 8]), (2, [2]), (3, [2])], loopAt [], []⟩
theorem S.rdnew_k {R : Type} (sp : Int) (k : AVal → List Blk → Option R) : fnEval tis F32 0 G31 Try.f32 [.int .i64 sp] [] k =
  (bif decide (sp < 0) then
    k (.nilp) ([])
  else
    bif decide (600 < sp) then
      k (.nilp) ([])
    else
      k (.ptr 0 0 0) ([.var [.int .i64 sp, .nils]])) := by kernel_rfl
def S.rdnew (sp : Int) : (Unit) ⊕ (Int) :=
  bif decide (sp < 0) then
    (.inl ())
  else
    bif decide (600 < sp) then
      (.inl ())
    else
      (.inr (sp))
theorem S.rdnew_v {R : Type} (sp : Int) (k : AVal → List Blk → Option R) : fnEval tis F32 0 G31 Try.f32 [.int .i64 sp] [] k = (Sum.elim (fun v : Unit => k .nilp []) (fun v : Int => k (.ptr 0 0 0) [(.var [(.int .i64 v), .nils])])) (S.rdnew sp) :=
  (S.rdnew_k sp k).trans (bif_lift (f := (Sum.elim (fun v : Unit => k .nilp []) (fun v : Int => k (.ptr 0 0 0) [(.var [(.int .i64 v), .nils])]))) rfl (bif_lift (f := (Sum.elim (fun v : Unit => k .nilp []) (fun v : Int => k (.ptr 0 0 0) [(.var [(.int .i64 v), .nils])]))) rfl rfl))
def H32 : Hnd := fun R args σ k => match args, σ with
  | [.int .i64 sp], [] => (Sum.elim (fun v : Unit => k .nilp []) (fun v : Int => k (.ptr 0 0 0) [(.var [(.int .i64 v), .nils])])) (S.rdnew sp)
  | _, _ => none
theorem H32_ok : HndOk Try.prog 32 H32 := hnd_ok tis tisOk mixOk G31_ok F32 Try.func32 rfl (by
  intro R args σ k r h
  unfold H32 at h
  split at h
  · rename_i sp; exact ⟨0, (S.rdnew_v sp _).trans h⟩
  · cases h)
def G32 : Env := Env.add 32 H32 G31
theorem G32_ok : EnvOk Try.prog G32 := envAdd_ok H32_ok G31_ok

/-! (*spinnakerref12.Delay).Put -/
def F33 : FCfg := ⟨keepAt [(0, [0, 1, 2]), (1, [0, 1, 2, 45]), (2, [6]), (3, []), (4, [6])], loopAt [], []⟩
theorem S.rdput_k {R : Type} (r : RL) (lo len : Nat) (sp t w : Int) (k : AVal → List Blk → Option R) : fnEval tis F33 0 G32 Try.f33 [.ptr 0 0 0, .int .i64 t, .int .i64 w] [.var [.int .i64 sp, .slice 2 1 lo len none], .rows (.pair (.int .i64) (.int .i64)) r false] k =
  (bif decide (t < 0) then
    k (.int .i64 1) ([.var [.int .i64 sp, .slice 2 1 lo len Option.none], .rows (Cd.pair (Cd.int .i64) (Cd.int .i64)) r false])
  else
    bif decide (1099511627776 < t) then
      k (.int .i64 1) ([.var [.int .i64 sp, .slice 2 1 lo len Option.none], .rows (Cd.pair (Cd.int .i64) (Cd.int .i64)) r false])
    else
      bif decide (w < 0) then
        k (.int .i64 1) ([.var [.int .i64 sp, .slice 2 1 lo len Option.none], .rows (Cd.pair (Cd.int .i64) (Cd.int .i64)) r false])
      else
        bif decide (1000000 < w) then
          k (.int .i64 1) ([.var [.int .i64 sp, .slice 2 1 lo len Option.none], .rows (Cd.pair (Cd.int .i64) (Cd.int .i64)) r false])
        else
          bif decide (0 < ((len : Nat) : Int)) then
            bif inB (Go.IntKind.wrap .i64 (((len : Nat) : Int) - 1)) len then
              (optK (r[Int.toNat (Go.IntKind.wrap .i64 (((len : Nat) : Int) - 1)) + lo]?) fun o8 =>
                bif decide (t < Prod.fst o8) then
                  k (.int .i64 1) ([.var [.int .i64 sp, .slice 2 1 lo len Option.none], .rows (Cd.pair (Cd.int .i64) (Cd.int .i64)) r false])
                else
                  bif Nat.beq 2 2 && Nat.blt 0 16 && Nat.beq 2 2 && Nat.beq 2 2 && Nat.beq 2 2 && Nat.blt 0 1 && !Nat.beq 1 2 && Nat.ble ((len + 1) * 16) 35184372088832 then
                    k (.int .i64 0) ([.var [.int .i64 sp, .slice 2 2 0 (List.length (cutL r lo len ++ cutL [(t, w)] 0 1)) Option.none], .dead, .rows (Cd.pair (Cd.int .i64) (Cd.int .i64)) (cutL r lo len ++ cutL [(t, w)] 0 1) false])
                  else
                    none)
            else
              none
          else
            bif Nat.beq 2 2 && Nat.blt 0 16 && Nat.beq 2 2 && Nat.beq 2 2 && Nat.beq 2 2 && Nat.blt 0 1 && !Nat.beq 1 2 && Nat.ble ((len + 1) * 16) 35184372088832 then
              k (.int .i64 0) ([.var [.int .i64 sp, .slice 2 2 0 (List.length (cutL r lo len ++ cutL [(t, w)] 0 1)) Option.none], .dead, .rows (Cd.pair (Cd.int .i64) (Cd.int .i64)) (cutL r lo len ++ cutL [(t, w)] 0 1) false])
            else
              none) := by kernel_rfl
def S.rdput (r : RL) (lo len : Nat) (sp t w : Int) : Option ((Int × Nat × Nat × RL) ⊕ (Int × Nat × List (Int × Int))) :=
  bif decide (t < 0) then
    some (.inl (sp, lo, len, r))
  else
    bif decide (1099511627776 < t) then
      some (.inl (sp, lo, len, r))
    else
      bif decide (w < 0) then
        some (.inl (sp, lo, len, r))
      else
        bif decide (1000000 < w) then
          some (.inl (sp, lo, len, r))
        else
          bif decide (0 < ((len : Nat) : Int)) then
            bif inB (Go.IntKind.wrap .i64 (((len : Nat) : Int) - 1)) len then
              (optK (r[Int.toNat (Go.IntKind.wrap .i64 (((len : Nat) : Int) - 1)) + lo]?) fun o8 =>
                bif decide (t < Prod.fst o8) then
                  some (.inl (sp, lo, len, r))
                else
                  bif Nat.beq 2 2 && Nat.blt 0 16 && Nat.beq 2 2 && Nat.beq 2 2 && Nat.beq 2 2 && Nat.blt 0 1 && !Nat.beq 1 2 && Nat.ble ((len + 1) * 16) 35184372088832 then
                    some (.inr (sp, List.length (cutL r lo len ++ cutL [(t, w)] 0 1), cutL r lo len ++ cutL [(t, w)] 0 1))
                  else
                    none)
            else
              none
          else
            bif Nat.beq 2 2 && Nat.blt 0 16 && Nat.beq 2 2 && Nat.beq 2 2 && Nat.beq 2 2 && Nat.blt 0 1 && !Nat.beq 1 2 && Nat.ble ((len + 1) * 16) 35184372088832 then
              some (.inr (sp, List.length (cutL r lo len ++ cutL [(t, w)] 0 1), cutL r lo len ++ cutL [(t, w)] 0 1))
            else
              none
theorem S.rdput_v {R : Type} (r : RL) (lo len : Nat) (sp t w : Int) (k : AVal → List Blk → Option R) : fnEval tis F33 0 G32 Try.f33 [.ptr 0 0 0, .int .i64 t, .int .i64 w] [.var [.int .i64 sp, .slice 2 1 lo len none], .rows (.pair (.int .i64) (.int .i64)) r false] k = oK (Sum.elim (fun v : Int × Nat × Nat × RL => k (.int .i64 (1)) [(.var [(.int .i64 v.1), (.slice 2 1 v.2.1 v.2.2.1 none)]), (.rows (Cd.pair (Cd.int .i64) (Cd.int .i64)) v.2.2.2 false)]) (fun v : Int × Nat × List (Int × Int) => k (.int .i64 (0)) [(.var [(.int .i64 v.1), (.slice 2 2 0 v.2.1 none)]), .dead, (.rows (Cd.pair (Cd.int .i64) (Cd.int .i64)) v.2.2 false)])) (S.rdput r lo len sp t w) :=
  (S.rdput_k r lo len sp t w k).trans (bif_lift (f := (oK (Sum.elim (fun v : Int × Nat × Nat × RL => k (.int .i64 (1)) [(.var [(.int .i64 v.1), (.slice 2 1 v.2.1 v.2.2.1 none)]), (.rows (Cd.pair (Cd.int .i64) (Cd.int .i64)) v.2.2.2 false)]) (fun v : Int × Nat × List (Int × Int) => k (.int .i64 (0)) [(.var [(.int .i64 v.1), (.slice 2 2 0 v.2.1 none)]), .dead, (.rows (Cd.pair (Cd.int .i64) (Cd.int .i64)) v.2.2 false)])))) rfl (bif_lift (f := (oK (Sum.elim (fun v : Int × Nat × Nat × RL => k (.int .i64 (1)) [(.var [(.int .i64 v.1), (.slice 2 1 v.2.1 v.2.2.1 none)]), (.rows (Cd.pair (Cd.int .i64) (Cd.int .i64)) v.2.2.2 false)]) (fun v : Int × Nat × List (Int × Int) => k (.int .i64 (0)) [(.var [(.int .i64 v.1), (.slice 2 2 0 v.2.1 none)]), .dead, (.rows (Cd.pair (Cd.int .i64) (Cd.int .i64)) v.2.2 false)])))) rfl (bif_lift (f := (oK (Sum.elim (fun v : Int × Nat × Nat × RL => k (.int .i64 (1)) [(.var [(.int .i64 v.1), (.slice 2 1 v.2.1 v.2.2.1 none)]), (.rows (Cd.pair (Cd.int .i64) (Cd.int .i64)) v.2.2.2 false)]) (fun v : Int × Nat × List (Int × Int) => k (.int .i64 (0)) [(.var [(.int .i64 v.1), (.slice 2 2 0 v.2.1 none)]), .dead, (.rows (Cd.pair (Cd.int .i64) (Cd.int .i64)) v.2.2 false)])))) rfl (bif_lift (f := (oK (Sum.elim (fun v : Int × Nat × Nat × RL => k (.int .i64 (1)) [(.var [(.int .i64 v.1), (.slice 2 1 v.2.1 v.2.2.1 none)]), (.rows (Cd.pair (Cd.int .i64) (Cd.int .i64)) v.2.2.2 false)]) (fun v : Int × Nat × List (Int × Int) => k (.int .i64 (0)) [(.var [(.int .i64 v.1), (.slice 2 2 0 v.2.1 none)]), .dead, (.rows (Cd.pair (Cd.int .i64) (Cd.int .i64)) v.2.2 false)])))) rfl (bif_lift (f := (oK (Sum.elim (fun v : Int × Nat × Nat × RL => k (.int .i64 (1)) [(.var [(.int .i64 v.1), (.slice 2 1 v.2.1 v.2.2.1 none)]), (.rows (Cd.pair (Cd.int .i64) (Cd.int .i64)) v.2.2.2 false)]) (fun v : Int × Nat × List (Int × Int) => k (.int .i64 (0)) [(.var [(.int .i64 v.1), (.slice 2 2 0 v.2.1 none)]), .dead, (.rows (Cd.pair (Cd.int .i64) (Cd.int .i64)) v.2.2 false)])))) (bif_lift (f := (oK (Sum.elim (fun v : Int × Nat × Nat × RL => k (.int .i64 (1)) [(.var [(.int .i64 v.1), (.slice 2 1 v.2.1 v.2.2.1 none)]), (.rows (Cd.pair (Cd.int .i64) (Cd.int .i64)) v.2.2.2 false)]) (fun v : Int × Nat × List (Int × Int) => k (.int .i64 (0)) [(.var [(.int .i64 v.1), (.slice 2 2 0 v.2.1 none)]), .dead, (.rows (Cd.pair (Cd.int .i64) (Cd.int .i64)) v.2.2 false)])))) (opt_lift fun o8 => (bif_lift (f := (oK (Sum.elim (fun v : Int × Nat × Nat × RL => k (.int .i64 (1)) [(.var [(.int .i64 v.1), (.slice 2 1 v.2.1 v.2.2.1 none)]), (.rows (Cd.pair (Cd.int .i64) (Cd.int .i64)) v.2.2.2 false)]) (fun v : Int × Nat × List (Int × Int) => k (.int .i64 (0)) [(.var [(.int .i64 v.1), (.slice 2 2 0 v.2.1 none)]), .dead, (.rows (Cd.pair (Cd.int .i64) (Cd.int .i64)) v.2.2 false)])))) rfl (bif_lift (f := (oK (Sum.elim (fun v : Int × Nat × Nat × RL => k (.int .i64 (1)) [(.var [(.int .i64 v.1), (.slice 2 1 v.2.1 v.2.2.1 none)]), (.rows (Cd.pair (Cd.int .i64) (Cd.int .i64)) v.2.2.2 false)]) (fun v : Int × Nat × List (Int × Int) => k (.int .i64 (0)) [(.var [(.int .i64 v.1), (.slice 2 2 0 v.2.1 none)]), .dead, (.rows (Cd.pair (Cd.int .i64) (Cd.int .i64)) v.2.2 false)])))) rfl rfl))) rfl) (bif_lift (f := (oK (Sum.elim (fun v : Int × Nat × Nat × RL => k (.int .i64 (1)) [(.var [(.int .i64 v.1), (.slice 2 1 v.2.1 v.2.2.1 none)]), (.rows (Cd.pair (Cd.int .i64) (Cd.int .i64)) v.2.2.2 false)]) (fun v : Int × Nat × List (Int × Int) => k (.int .i64 (0)) [(.var [(.int .i64 v.1), (.slice 2 2 0 v.2.1 none)]), .dead, (.rows (Cd.pair (Cd.int .i64) (Cd.int .i64)) v.2.2 false)])))) rfl rfl))))))
theorem S.rdput1_k {R : Type} (sp t w : Int) (k : AVal → List Blk → Option R) : fnEval tis F33 0 G32 Try.f33 [.ptr 0 0 0, .int .i64 t, .int .i64 w] [.var [.int .i64 sp, .nils]] k =
  (bif decide (t < 0) then
    k (.int .i64 1) ([.var [.int .i64 sp, .nils]])
  else
    bif decide (1099511627776 < t) then
      k (.int .i64 1) ([.var [.int .i64 sp, .nils]])
    else
      bif decide (w < 0) then
        k (.int .i64 1) ([.var [.int .i64 sp, .nils]])
      else
        bif decide (1000000 < w) then
          k (.int .i64 1) ([.var [.int .i64 sp, .nils]])
        else
          k (.int .i64 0) ([.var [.int .i64 sp, .slice 2 1 0 1 Option.none], .rows (Cd.pair (Cd.int .i64) (Cd.int .i64)) ([] ++ cutL [(t, w)] 0 1) false])) := by kernel_rfl
def S.rdput1 (sp t w : Int) : (Int) ⊕ (Int × List (Int × Int)) :=
  bif decide (t < 0) then
    (.inl (sp))
  else
    bif decide (1099511627776 < t) then
      (.inl (sp))
    else
      bif decide (w < 0) then
        (.inl (sp))
      else
        bif decide (1000000 < w) then
          (.inl (sp))
        else
          (.inr (sp, [] ++ cutL [(t, w)] 0 1))
theorem S.rdput1_v {R : Type} (sp t w : Int) (k : AVal → List Blk → Option R) : fnEval tis F33 0 G32 Try.f33 [.ptr 0 0 0, .int .i64 t, .int .i64 w] [.var [.int .i64 sp, .nils]] k = (Sum.elim (fun v : Int => k (.int .i64 (1)) [(.var [(.int .i64 v), .nils])]) (fun v : Int × List (Int × Int) => k (.int .i64 (0)) [(.var [(.int .i64 v.1), (.slice 2 1 0 1 none)]), (.rows (Cd.pair (Cd.int .i64) (Cd.int .i64)) v.2 false)])) (S.rdput1 sp t w) :=
  (S.rdput1_k sp t w k).trans (bif_lift (f := (Sum.elim (fun v : Int => k (.int .i64 (1)) [(.var [(.int .i64 v), .nils])]) (fun v : Int × List (Int × Int) => k (.int .i64 (0)) [(.var [(.int .i64 v.1), (.slice 2 1 0 1 none)]), (.rows (Cd.pair (Cd.int .i64) (Cd.int .i64)) v.2 false)]))) rfl (bif_lift (f := (Sum.elim (fun v : Int => k (.int .i64 (1)) [(.var [(.int .i64 v), .nils])]) (fun v : Int × List (Int × Int) => k (.int .i64 (0)) [(.var [(.int .i64 v.1), (.slice 2 1 0 1 none)]), (.rows (Cd.pair (Cd.int .i64) (Cd.int .i64)) v.2 false)]))) rfl (bif_lift (f := (Sum.elim (fun v : Int => k (.int .i64 (1)) [(.var [(.int .i64 v), .nils])]) (fun v : Int × List (Int × Int) => k (.int .i64 (0)) [(.var [(.int .i64 v.1), (.slice 2 1 0 1 none)]), (.rows (Cd.pair (Cd.int .i64) (Cd.int .i64)) v.2 false)]))) rfl (bif_lift (f := (Sum.elim (fun v : Int => k (.int .i64 (1)) [(.var [(.int .i64 v), .nils])]) (fun v : Int × List (Int × Int) => k (.int .i64 (0)) [(.var [(.int .i64 v.1), (.slice 2 1 0 1 none)]), (.rows (Cd.pair (Cd.int .i64) (Cd.int .i64)) v.2 false)]))) rfl rfl))))
def H33 : Hnd := fun R args σ k => match args, σ with
  | [.ptr 0 0 0, .int .i64 t, .int .i64 w], [.var [.int .i64 sp, .slice 2 1 lo len none], .rows (.pair (.int .i64) (.int .i64)) r false] => oK (Sum.elim (fun v : Int × Nat × Nat × RL => k (.int .i64 (1)) [(.var [(.int .i64 v.1), (.slice 2 1 v.2.1 v.2.2.1 none)]), (.rows (Cd.pair (Cd.int .i64) (Cd.int .i64)) v.2.2.2 false)]) (fun v : Int × Nat × List (Int × Int) => k (.int .i64 (0)) [(.var [(.int .i64 v.1), (.slice 2 2 0 v.2.1 none)]), .dead, (.rows (Cd.pair (Cd.int .i64) (Cd.int .i64)) v.2.2 false)])) (S.rdput r lo len sp t w)
  | [.ptr 0 0 0, .int .i64 t, .int .i64 w], [.var [.int .i64 sp, .nils]] => (Sum.elim (fun v : Int => k (.int .i64 (1)) [(.var [(.int .i64 v), .nils])]) (fun v : Int × List (Int × Int) => k (.int .i64 (0)) [(.var [(.int .i64 v.1), (.slice 2 1 0 1 none)]), (.rows (Cd.pair (Cd.int .i64) (Cd.int .i64)) v.2 false)])) (S.rdput1 sp t w)
  | _, _ => none
theorem H33_ok : HndOk Try.prog 33 H33 := hnd_ok tis tisOk mixOk G32_ok F33 Try.func33 rfl (by
  intro R args σ k r h
  unfold H33 at h
  split at h
  · rename_i t w sp lo len r; exact ⟨0, (S.rdput_v r lo len sp t w _).trans h⟩
  · rename_i t w sp; exact ⟨0, (S.rdput1_v sp t w _).trans h⟩
  · cases h)
def G33 : Env := Env.add 33 H33 G32
theorem G33_ok : EnvOk Try.prog G33 := envAdd_ok H33_ok G32_ok

/-! (*spinnakerref12.Delay).Most -/
def F35 : FCfg := ⟨keepAt [(0, [0, 1]), (1, [0, 1, 5]), (2, [0, 1, 5]), (3, [0, 1, 5, 6]), (4, [0, 1, 5, 6, 17]), (5, [0, 1, 5, 6]), (6, [0, 1, 5, 6, 7]), (7, [0, 1, 5, 6, 7, 43]), (8, [0, 1, 5, 6, 7, 58]), (9, [0, 1, 5, 6]), (10, [4])], loopAt [(4, [0, 1, 5, 6], [])], []⟩
noncomputable def C_rdmost (fu : Nat) (r : RL) (lo len : Nat) (sp t : Int) : Cfg := Cfg.of tis F35 fu (List.length ([.var [.int .i64 sp, .slice 2 1 lo len none], .rows (.pair (.int .i64) (.int .i64)) r false] : List Blk)) Try.f35.ntmps
noncomputable def S.rdmost_b0 : Code := codeAt (bodyOf Try.f35) [1, 1, 1, 0, 1, 0, 0]
noncomputable def S.rdmost_s0 (r : RL) (lo len : Nat) (sp t : Int) (y0 : Int) (y1 : Int) : St := ⟨[(0, (.ptr 0 (0) 0)), (1, (.int .i64 (if 1099511628377 < if 0 > t then 0 else t then 1099511628377 else if 0 > t then 0 else t))), (5, (.int .i64 (y0))), (6, (.int .i64 (y1)))], [(.var [(.int .i64 (sp)), (.slice 2 1 (lo) (len) none)]), (.rows (Cd.pair (Cd.int .i64) (Cd.int .i64)) (r) false)]⟩
noncomputable def S.rdmost_x0_0 (r : RL) (lo len : Nat) (sp t : Int) (z0 : Int) (z1 : Int) (z2 : Bool) : St := ⟨[(0, (.ptr 0 (0) 0)), (1, (.int .i64 (if 1099511628377 < if 0 > t then 0 else t then 1099511628377 else if 0 > t then 0 else t))), (5, (.int .i64 (z0))), (6, (.int .i64 (z1))), (17, (.bool (z2)))], [(.var [(.int .i64 (sp)), (.slice 2 1 (lo) (len) none)]), (.rows (Cd.pair (Cd.int .i64) (Cd.int .i64)) (r) false)]⟩
theorem S.rdmost_l0_k {R : Type} (fu : Nat) (r : RL) (lo len : Nat) (sp t : Int) (n : Nat) (K : Ex → St → Option R) (y0 : Int) (y1 : Int) : loopRun (C_rdmost fu r lo len sp t) G33 S.rdmost_b0 (n + 1) (S.rdmost_s0 r lo len sp t (y0) (y1)) K =
  (bif decide (y1 < ((len : Nat) : Int)) then
    bif inB y1 len then
      (optK (r[Int.toNat y1 + lo]?) fun o4 =>
        bif inB (Go.IntKind.wrap .i64 (((len : Nat) : Int) - 1)) len then
          (optK (r[Int.toNat (Go.IntKind.wrap .i64 (((len : Nat) : Int) - 1)) + lo]?) fun o6 =>
            bif decide (Prod.fst o4 < Go.IntKind.wrap .i64 (Prod.fst o6 - 600)) then
              loopRun (C_rdmost fu r lo len sp t) G33 S.rdmost_b0 n (S.rdmost_s0 r lo len sp t (y0) (Go.IntKind.wrap .i64 (y1 + 1))) K
            else
              bif decide (Go.IntKind.wrap .i64 ((if 1099511628377 < if 0 > t then 0 else t then 1099511628377 else if 0 > t then 0 else t) - sp) < Prod.fst o4) then
                loopRun (C_rdmost fu r lo len sp t) G33 S.rdmost_b0 n (S.rdmost_s0 r lo len sp t (if Prod.snd o4 > y0 then Prod.snd o4 else y0) (Go.IntKind.wrap .i64 (y1 + 1))) K
              else
                bif decide ((if 1099511628377 < if 0 > t then 0 else t then 1099511628377 else if 0 > t then 0 else t) ≤ Prod.fst o4) then
                  loopRun (C_rdmost fu r lo len sp t) G33 S.rdmost_b0 n (S.rdmost_s0 r lo len sp t (if Prod.snd o4 > y0 then Prod.snd o4 else y0) (Go.IntKind.wrap .i64 (y1 + 1))) K
                else
                  loopRun (C_rdmost fu r lo len sp t) G33 S.rdmost_b0 n (S.rdmost_s0 r lo len sp t (y0) (Go.IntKind.wrap .i64 (y1 + 1))) K)
        else
          none)
    else
      none
  else
    K (Ex.exit 0) (S.rdmost_x0_0 r lo len sp t (y0) (y1) (decide (y1 < ((len : Nat) : Int))))) := by kernel_rfl
def S.rdmost_l0 (fu : Nat) (r : RL) (lo len : Nat) (sp t : Int) : Nat → (Int) → (Int) → Option ((Int × Int × Bool))
  | 0, _, _ => none
  | n + 1, y0, y1 =>
    bif decide (y1 < ((len : Nat) : Int)) then
      bif inB y1 len then
        (optK (r[Int.toNat y1 + lo]?) fun o4 =>
          bif inB (Go.IntKind.wrap .i64 (((len : Nat) : Int) - 1)) len then
            (optK (r[Int.toNat (Go.IntKind.wrap .i64 (((len : Nat) : Int) - 1)) + lo]?) fun o6 =>
              bif decide (Prod.fst o4 < Go.IntKind.wrap .i64 (Prod.fst o6 - 600)) then
                (S.rdmost_l0 fu r lo len sp t n) (y0) (Go.IntKind.wrap .i64 (y1 + 1))
              else
                bif decide (Go.IntKind.wrap .i64 ((if 1099511628377 < if 0 > t then 0 else t then 1099511628377 else if 0 > t then 0 else t) - sp) < Prod.fst o4) then
                  (S.rdmost_l0 fu r lo len sp t n) (if Prod.snd o4 > y0 then Prod.snd o4 else y0) (Go.IntKind.wrap .i64 (y1 + 1))
                else
                  bif decide ((if 1099511628377 < if 0 > t then 0 else t then 1099511628377 else if 0 > t then 0 else t) ≤ Prod.fst o4) then
                    (S.rdmost_l0 fu r lo len sp t n) (if Prod.snd o4 > y0 then Prod.snd o4 else y0) (Go.IntKind.wrap .i64 (y1 + 1))
                  else
                    (S.rdmost_l0 fu r lo len sp t n) (y0) (Go.IntKind.wrap .i64 (y1 + 1)))
          else
            none)
      else
        none
    else
      some (y0, y1, decide (y1 < ((len : Nat) : Int)))
theorem S.rdmost_l0_v {R : Type} (fu : Nat) (r : RL) (lo len : Nat) (sp t : Int) (K : Ex → St → Option R) : ∀ (n : Nat) (y0 : Int) (y1 : Int), loopRun (C_rdmost fu r lo len sp t) G33 S.rdmost_b0 n (S.rdmost_s0 r lo len sp t (y0) (y1)) K = oK (β := (Int × Int × Bool)) (fun z : Int × Int × Bool => K (Ex.exit 0) (S.rdmost_x0_0 r lo len sp t (z.1) (z.2.1) (z.2.2))) (S.rdmost_l0 fu r lo len sp t n y0 y1)
  | 0, _, _ => rfl
  | n + 1, y0, y1 => (S.rdmost_l0_k fu r lo len sp t n K y0 y1).trans (bif_lift (f := (oK (β := (Int × Int × Bool)) (fun z : Int × Int × Bool => K (Ex.exit 0) (S.rdmost_x0_0 r lo len sp t (z.1) (z.2.1) (z.2.2))))) (bif_lift (f := (oK (β := (Int × Int × Bool)) (fun z : Int × Int × Bool => K (Ex.exit 0) (S.rdmost_x0_0 r lo len sp t (z.1) (z.2.1) (z.2.2))))) (opt_lift fun o4 => (bif_lift (f := (oK (β := (Int × Int × Bool)) (fun z : Int × Int × Bool => K (Ex.exit 0) (S.rdmost_x0_0 r lo len sp t (z.1) (z.2.1) (z.2.2))))) (opt_lift fun o6 => (bif_lift (f := (oK (β := (Int × Int × Bool)) (fun z : Int × Int × Bool => K (Ex.exit 0) (S.rdmost_x0_0 r lo len sp t (z.1) (z.2.1) (z.2.2))))) (S.rdmost_l0_v fu r lo len sp t K n (y0) (Go.IntKind.wrap .i64 (y1 + 1))) (bif_lift (f := (oK (β := (Int × Int × Bool)) (fun z : Int × Int × Bool => K (Ex.exit 0) (S.rdmost_x0_0 r lo len sp t (z.1) (z.2.1) (z.2.2))))) (S.rdmost_l0_v fu r lo len sp t K n (if Prod.snd o4 > y0 then Prod.snd o4 else y0) (Go.IntKind.wrap .i64 (y1 + 1))) (bif_lift (f := (oK (β := (Int × Int × Bool)) (fun z : Int × Int × Bool => K (Ex.exit 0) (S.rdmost_x0_0 r lo len sp t (z.1) (z.2.1) (z.2.2))))) (S.rdmost_l0_v fu r lo len sp t K n (if Prod.snd o4 > y0 then Prod.snd o4 else y0) (Go.IntKind.wrap .i64 (y1 + 1))) (S.rdmost_l0_v fu r lo len sp t K n (y0) (Go.IntKind.wrap .i64 (y1 + 1))))))) rfl)) rfl) rfl)
theorem S.rdmost_a0_0_k {R : Type} (fu : Nat) (r : RL) (lo len : Nat) (sp t : Int) (z0 : Int) (z1 : Int) (z2 : Bool) (k : AVal → List Blk → Option R) : contOf (C_rdmost fu r lo len sp t) G33 (bodyOf Try.f35) [1, 1, 1, 0, 1, 0] (retK tis F35 Try.f35 (List.length ([.var [.int .i64 sp, .slice 2 1 lo len none], .rows (.pair (.int .i64) (.int .i64)) r false] : List Blk)) k) (Ex.exit 0) (S.rdmost_x0_0 r lo len sp t (z0) (z1) (z2)) =
  (k (.int .i64 z0) ([.var [.int .i64 sp, .slice 2 1 lo len Option.none], .rows (Cd.pair (Cd.int .i64) (Cd.int .i64)) r false])) := by kernel_rfl
def S.rdmost_a0_0 (fu : Nat) (r : RL) (lo len : Nat) (sp t : Int) (z0 : Int) (z1 : Int) (z2 : Bool) : Option (Int × Int × Nat × Nat × RL) :=
  some (z0, sp, lo, len, r)
theorem S.rdmost_a0_0_v {R : Type} (fu : Nat) (r : RL) (lo len : Nat) (sp t : Int) (z0 : Int) (z1 : Int) (z2 : Bool) (k : AVal → List Blk → Option R) : contOf (C_rdmost fu r lo len sp t) G33 (bodyOf Try.f35) [1, 1, 1, 0, 1, 0] (retK tis F35 Try.f35 (List.length ([.var [.int .i64 sp, .slice 2 1 lo len none], .rows (.pair (.int .i64) (.int .i64)) r false] : List Blk)) k) (Ex.exit 0) (S.rdmost_x0_0 r lo len sp t (z0) (z1) (z2)) = oK (fun v : Int × Int × Nat × Nat × RL => k (.int .i64 v.1) [(.var [(.int .i64 v.2.1), (.slice 2 1 v.2.2.1 v.2.2.2.1 none)]), (.rows (Cd.pair (Cd.int .i64) (Cd.int .i64)) v.2.2.2.2 false)]) (S.rdmost_a0_0 fu r lo len sp t z0 z1 z2) :=
  (S.rdmost_a0_0_k fu r lo len sp t z0 z1 z2 k).trans rfl
theorem S.rdmost_k {R : Type} (fu : Nat) (r : RL) (lo len : Nat) (sp t : Int) (k : AVal → List Blk → Option R) : fnEval tis F35 fu G33 Try.f35 [.ptr 0 0 0, .int .i64 t] [.var [.int .i64 sp, .slice 2 1 lo len none], .rows (.pair (.int .i64) (.int .i64)) r false] k =
  (loopRun (C_rdmost fu r lo len sp t) G33 S.rdmost_b0 fu (S.rdmost_s0 r lo len sp t (0) (0)) (contOf (C_rdmost fu r lo len sp t) G33 (bodyOf Try.f35) [1, 1, 1, 0, 1, 0] (retK tis F35 Try.f35 (List.length ([.var [.int .i64 sp, .slice 2 1 lo len none], .rows (.pair (.int .i64) (.int .i64)) r false] : List Blk)) k))) := by kernel_rfl
def S.rdmost (fu : Nat) (r : RL) (lo len : Nat) (sp t : Int) : Option (Int × Int × Nat × Nat × RL) :=
  optK (S.rdmost_l0 fu r lo len sp t fu (0) (0)) (fun z : Int × Int × Bool => S.rdmost_a0_0 fu r lo len sp t (z.1) (z.2.1) (z.2.2))
theorem S.rdmost_v {R : Type} (fu : Nat) (r : RL) (lo len : Nat) (sp t : Int) (k : AVal → List Blk → Option R) : fnEval tis F35 fu G33 Try.f35 [.ptr 0 0 0, .int .i64 t] [.var [.int .i64 sp, .slice 2 1 lo len none], .rows (.pair (.int .i64) (.int .i64)) r false] k = oK (fun v : Int × Int × Nat × Nat × RL => k (.int .i64 v.1) [(.var [(.int .i64 v.2.1), (.slice 2 1 v.2.2.1 v.2.2.2.1 none)]), (.rows (Cd.pair (Cd.int .i64) (Cd.int .i64)) v.2.2.2.2 false)]) (S.rdmost fu r lo len sp t) :=
  (S.rdmost_k fu r lo len sp t k).trans (arr_lift (S.rdmost_l0_v fu r lo len sp t (contOf (C_rdmost fu r lo len sp t) G33 (bodyOf Try.f35) [1, 1, 1, 0, 1, 0] (retK tis F35 Try.f35 (List.length ([.var [.int .i64 sp, .slice 2 1 lo len none], .rows (.pair (.int .i64) (.int .i64)) r false] : List Blk)) k)) fu (0) (0)) ((fun z => S.rdmost_a0_0_v fu r lo len sp t (z.1) (z.2.1) (z.2.2) k)))
noncomputable def C_rdmost1 (fu : Nat) (sp t : Int) : Cfg := Cfg.of tis F35 fu (List.length ([.var [.int .i64 sp, .nils]] : List Blk)) Try.f35.ntmps
noncomputable def S.rdmost1_b0 : Code := codeAt (bodyOf Try.f35) [1, 1, 1, 0, 1, 0, 0]
noncomputable def S.rdmost1_s0 (sp t : Int)  : St := ⟨[(0, (.ptr 0 (0) 0)), (1, (.int .i64 (if 1099511628377 < if 0 > t then 0 else t then 1099511628377 else if 0 > t then 0 else t))), (5, (.int .i64 (0))), (6, (.int .i64 (0)))], [(.var [(.int .i64 (sp)), .nils])]⟩
noncomputable def S.rdmost1_x0_0 (sp t : Int)  : St := ⟨[(0, (.ptr 0 (0) 0)), (1, (.int .i64 (if 1099511628377 < if 0 > t then 0 else t then 1099511628377 else if 0 > t then 0 else t))), (5, (.int .i64 (0))), (6, (.int .i64 (0))), (17, (.bool (false)))], [(.var [(.int .i64 (sp)), .nils])]⟩
theorem S.rdmost1_l0_k {R : Type} (fu : Nat) (sp t : Int) (n : Nat) (K : Ex → St → Option R)  : loopRun (C_rdmost1 fu sp t) G33 S.rdmost1_b0 (n + 1) (S.rdmost1_s0 sp t) K =
  (K (Ex.exit 0) (S.rdmost1_x0_0 sp t)) := by kernel_rfl
def S.rdmost1_l0 (fu : Nat) (sp t : Int) : Nat → Option ((Unit))
  | 0 => none
  | n + 1 =>
    some ()
theorem S.rdmost1_l0_v {R : Type} (fu : Nat) (sp t : Int) (K : Ex → St → Option R) : ∀ (n : Nat) , loopRun (C_rdmost1 fu sp t) G33 S.rdmost1_b0 n (S.rdmost1_s0 sp t) K = oK (β := (Unit)) (fun z : Unit => K (Ex.exit 0) (S.rdmost1_x0_0 sp t)) (S.rdmost1_l0 fu sp t n)
  | 0 => rfl
  | n + 1 => (S.rdmost1_l0_k fu sp t n K).trans rfl
theorem S.rdmost1_a0_0_k {R : Type} (fu : Nat) (sp t : Int)  (k : AVal → List Blk → Option R) : contOf (C_rdmost1 fu sp t) G33 (bodyOf Try.f35) [1, 1, 1, 0, 1, 0] (retK tis F35 Try.f35 (List.length ([.var [.int .i64 sp, .nils]] : List Blk)) k) (Ex.exit 0) (S.rdmost1_x0_0 sp t) =
  (k (.int .i64 0) ([.var [.int .i64 sp, .nils]])) := by kernel_rfl
def S.rdmost1_a0_0 (fu : Nat) (sp t : Int)  : Option (Int × Int) :=
  some (0, sp)
theorem S.rdmost1_a0_0_v {R : Type} (fu : Nat) (sp t : Int)  (k : AVal → List Blk → Option R) : contOf (C_rdmost1 fu sp t) G33 (bodyOf Try.f35) [1, 1, 1, 0, 1, 0] (retK tis F35 Try.f35 (List.length ([.var [.int .i64 sp, .nils]] : List Blk)) k) (Ex.exit 0) (S.rdmost1_x0_0 sp t) = oK (fun v : Int × Int => k (.int .i64 v.1) [(.var [(.int .i64 v.2), .nils])]) (S.rdmost1_a0_0 fu sp t) :=
  (S.rdmost1_a0_0_k fu sp t k).trans rfl
theorem S.rdmost1_k {R : Type} (fu : Nat) (sp t : Int) (k : AVal → List Blk → Option R) : fnEval tis F35 fu G33 Try.f35 [.ptr 0 0 0, .int .i64 t] [.var [.int .i64 sp, .nils]] k =
  (loopRun (C_rdmost1 fu sp t) G33 S.rdmost1_b0 fu (S.rdmost1_s0 sp t) (contOf (C_rdmost1 fu sp t) G33 (bodyOf Try.f35) [1, 1, 1, 0, 1, 0] (retK tis F35 Try.f35 (List.length ([.var [.int .i64 sp, .nils]] : List Blk)) k))) := by kernel_rfl
def S.rdmost1 (fu : Nat) (sp t : Int) : Option (Int × Int) :=
  optK (S.rdmost1_l0 fu sp t fu) (fun z : Unit => S.rdmost1_a0_0 fu sp t)
theorem S.rdmost1_v {R : Type} (fu : Nat) (sp t : Int) (k : AVal → List Blk → Option R) : fnEval tis F35 fu G33 Try.f35 [.ptr 0 0 0, .int .i64 t] [.var [.int .i64 sp, .nils]] k = oK (fun v : Int × Int => k (.int .i64 v.1) [(.var [(.int .i64 v.2), .nils])]) (S.rdmost1 fu sp t) :=
  (S.rdmost1_k fu sp t k).trans (arr_lift (S.rdmost1_l0_v fu sp t (contOf (C_rdmost1 fu sp t) G33 (bodyOf Try.f35) [1, 1, 1, 0, 1, 0] (retK tis F35 Try.f35 (List.length ([.var [.int .i64 sp, .nils]] : List Blk)) k)) fu) ((fun z => S.rdmost1_a0_0_v fu sp t k)))
def H35 : Hnd := fun R args σ k => match args, σ with
  | [.ptr 0 0 0, .int .i64 t], [.var [.int .i64 sp, .slice 2 1 lo len none], .rows (.pair (.int .i64) (.int .i64)) r false] => oK (fun v : Int × Int × Nat × Nat × RL => k (.int .i64 v.1) [(.var [(.int .i64 v.2.1), (.slice 2 1 v.2.2.1 v.2.2.2.1 none)]), (.rows (Cd.pair (Cd.int .i64) (Cd.int .i64)) v.2.2.2.2 false)]) (S.rdmost 100000 r lo len sp t)
  | [.ptr 0 0 0, .int .i64 t], [.var [.int .i64 sp, .nils]] => oK (fun v : Int × Int => k (.int .i64 v.1) [(.var [(.int .i64 v.2), .nils])]) (S.rdmost1 100000 sp t)
  | _, _ => none
theorem H35_ok : HndOk Try.prog 35 H35 := hnd_ok tis tisOk mixOk G33_ok F35 Try.func35 rfl (by
  intro R args σ k r h
  unfold H35 at h
  split at h
  · rename_i t sp lo len r; exact ⟨100000, (S.rdmost_v 100000 r lo len sp t _).trans h⟩
  · rename_i t sp; exact ⟨100000, (S.rdmost1_v 100000 sp t _).trans h⟩
  · cases h)
def G35 : Env := Env.add 35 H35 G33
theorem G35_ok : EnvOk Try.prog G35 := envAdd_ok H35_ok G33_ok

/-! (*spinnakerref12.Delay).Change -/
def F34 : FCfg := ⟨keepAt [(0, [0, 1]), (1, [0, 1, 10]), (2, [4]), (3, []), (4, [4])], loopAt [], []⟩
theorem S.rdchange_k {R : Type} (r : RL) (lo len : Nat) (sp x : Int) (k : AVal → List Blk → Option R) : fnEval tis F34 0 G35 Try.f34 [.ptr 0 0 0, .int .i64 x] [.var [.int .i64 sp, .slice 2 1 lo len none], .rows (.pair (.int .i64) (.int .i64)) r false] k =
  (bif decide (x < 0) then
    k (.int .i64 1) ([.var [.int .i64 sp, .slice 2 1 lo len Option.none], .rows (Cd.pair (Cd.int .i64) (Cd.int .i64)) r false])
  else
    bif decide (600 < x) then
      k (.int .i64 1) ([.var [.int .i64 sp, .slice 2 1 lo len Option.none], .rows (Cd.pair (Cd.int .i64) (Cd.int .i64)) r false])
    else
      k (.int .i64 0) ([.var [.int .i64 x, .slice 2 1 lo len Option.none], .rows (Cd.pair (Cd.int .i64) (Cd.int .i64)) r false])) := by kernel_rfl
def S.rdchange (r : RL) (lo len : Nat) (sp x : Int) : Int × Int × Nat × Nat × RL :=
  bif decide (x < 0) then
    (1, sp, lo, len, r)
  else
    bif decide (600 < x) then
      (1, sp, lo, len, r)
    else
      (0, x, lo, len, r)
theorem S.rdchange_v {R : Type} (r : RL) (lo len : Nat) (sp x : Int) (k : AVal → List Blk → Option R) : fnEval tis F34 0 G35 Try.f34 [.ptr 0 0 0, .int .i64 x] [.var [.int .i64 sp, .slice 2 1 lo len none], .rows (.pair (.int .i64) (.int .i64)) r false] k = k (.int .i64 (S.rdchange r lo len sp x).1) [(.var [(.int .i64 (S.rdchange r lo len sp x).2.1), (.slice 2 1 (S.rdchange r lo len sp x).2.2.1 (S.rdchange r lo len sp x).2.2.2.1 none)]), (.rows (Cd.pair (Cd.int .i64) (Cd.int .i64)) (S.rdchange r lo len sp x).2.2.2.2 false)] :=
  (S.rdchange_k r lo len sp x k).trans (bif_lift (f := (fun v : Int × Int × Nat × Nat × RL => k (.int .i64 v.1) [(.var [(.int .i64 v.2.1), (.slice 2 1 v.2.2.1 v.2.2.2.1 none)]), (.rows (Cd.pair (Cd.int .i64) (Cd.int .i64)) v.2.2.2.2 false)])) rfl (bif_lift (f := (fun v : Int × Int × Nat × Nat × RL => k (.int .i64 v.1) [(.var [(.int .i64 v.2.1), (.slice 2 1 v.2.2.1 v.2.2.2.1 none)]), (.rows (Cd.pair (Cd.int .i64) (Cd.int .i64)) v.2.2.2.2 false)])) rfl rfl))
theorem S.rdchange1_k {R : Type} (sp x : Int) (k : AVal → List Blk → Option R) : fnEval tis F34 0 G35 Try.f34 [.ptr 0 0 0, .int .i64 x] [.var [.int .i64 sp, .nils]] k =
  (bif decide (x < 0) then
    k (.int .i64 1) ([.var [.int .i64 sp, .nils]])
  else
    bif decide (600 < x) then
      k (.int .i64 1) ([.var [.int .i64 sp, .nils]])
    else
      k (.int .i64 0) ([.var [.int .i64 x, .nils]])) := by kernel_rfl
def S.rdchange1 (sp x : Int) : Int × Int :=
  bif decide (x < 0) then
    (1, sp)
  else
    bif decide (600 < x) then
      (1, sp)
    else
      (0, x)
theorem S.rdchange1_v {R : Type} (sp x : Int) (k : AVal → List Blk → Option R) : fnEval tis F34 0 G35 Try.f34 [.ptr 0 0 0, .int .i64 x] [.var [.int .i64 sp, .nils]] k = k (.int .i64 (S.rdchange1 sp x).1) [(.var [(.int .i64 (S.rdchange1 sp x).2), .nils])] :=
  (S.rdchange1_k sp x k).trans (bif_lift (f := (fun v : Int × Int => k (.int .i64 v.1) [(.var [(.int .i64 v.2), .nils])])) rfl (bif_lift (f := (fun v : Int × Int => k (.int .i64 v.1) [(.var [(.int .i64 v.2), .nils])])) rfl rfl))
def H34 : Hnd := fun R args σ k => match args, σ with
  | [.ptr 0 0 0, .int .i64 x], [.var [.int .i64 sp, .slice 2 1 lo len none], .rows (.pair (.int .i64) (.int .i64)) r false] => k (.int .i64 (S.rdchange r lo len sp x).1) [(.var [(.int .i64 (S.rdchange r lo len sp x).2.1), (.slice 2 1 (S.rdchange r lo len sp x).2.2.1 (S.rdchange r lo len sp x).2.2.2.1 none)]), (.rows (Cd.pair (Cd.int .i64) (Cd.int .i64)) (S.rdchange r lo len sp x).2.2.2.2 false)]
  | [.ptr 0 0 0, .int .i64 x], [.var [.int .i64 sp, .nils]] => k (.int .i64 (S.rdchange1 sp x).1) [(.var [(.int .i64 (S.rdchange1 sp x).2), .nils])]
  | _, _ => none
theorem H34_ok : HndOk Try.prog 34 H34 := hnd_ok tis tisOk mixOk G35_ok F34 Try.func34 rfl (by
  intro R args σ k r h
  unfold H34 at h
  split at h
  · rename_i x sp lo len r; exact ⟨0, (S.rdchange_v r lo len sp x _).trans h⟩
  · rename_i x sp; exact ⟨0, (S.rdchange1_v sp x _).trans h⟩
  · cases h)
def G34 : Env := Env.add 34 H34 G35
theorem G34_ok : EnvOk Try.prog G34 := envAdd_ok H34_ok G35_ok
end Go.Proofs.Ytfoaihjkmfhaoaa.AB
