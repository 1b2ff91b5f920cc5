/- The functions of layer 6, as plain functions. -/
import Derived.Test.YtfoaihjkmfhaoaaTis
import Derived.Test.YtfoaihjkmfhaoaaFwZ
namespace Go.Proofs.Ytfoaihjkmfhaoaa.AB
set_option linter.unusedVariables false
abbrev RL : Type := List (Int × Int)

/-! milli.end -/
def F60 : FCfg := ⟨keepAt [(0, [0]), (1, [4, 5]), (2, [14]), (3, [2, 3]), (4, [2, 3])], loopAt [], []⟩
theorem S.mend_k {R : Type} (up : Bool) (k : AVal → List Blk → Option R) : fnEval tis F60 0 Env.none Try.f60 [.iface 4 (.bool up)] [] k =
  (bif up then
    k (.tuple [.int .i64 9223372036854775807, .int .i64 2]) ([])
  else
    k (.tuple [.int .i64 (-9223372036854775808), .int .i64 2]) ([])) := by kernel_rfl
def S.mend (up : Bool) : Int × Int :=
  bif up then
    (9223372036854775807, 2)
  else
    (-9223372036854775808, 2)
theorem S.mend_v {R : Type} (up : Bool) (k : AVal → List Blk → Option R) : fnEval tis F60 0 Env.none Try.f60 [.iface 4 (.bool up)] [] k = k (.tuple [(.int .i64 (S.mend up).1), (.int .i64 (S.mend up).2)]) [] :=
  (S.mend_k up k).trans (bif_lift (f := (fun v : Int × Int => k (.tuple [(.int .i64 v.1), (.int .i64 v.2)]) [])) rfl rfl)
def H60 : Hnd := fun R args σ k => match args, σ with
  | [.iface 4 (.bool up)], [] => k (.tuple [(.int .i64 (S.mend up).1), (.int .i64 (S.mend up).2)]) []
  | _, _ => none
theorem H60_ok : HndOk Try.prog 60 H60 := hnd_ok tis tisOk mixOk envNone_ok F60 Try.func60 rfl (by
  intro R args σ k r h
  unfold H60 at h
  split at h
  · rename_i up; exact ⟨0, (S.mend_v up _).trans h⟩
  · cases h)
def G60 : Env := Env.add 60 H60 Env.none
theorem G60_ok : EnvOk Try.prog G60 := envAdd_ok H60_ok envNone_ok

/-! milli.Add -/
def F47 : FCfg := ⟨keepAt [(0, [0, 1]), (1, [0, 1, 23]), (2, [4, 5]), (3, [4, 5])], loopAt [], []⟩
theorem S.madd_k {R : Type} (a b : Int) (k : AVal → List Blk → Option R) : fnEval tis F47 0 G60 Try.f47 [.int .i64 a, .int .i64 b] [] k =
  (bif decide (0 < b) then
    bif decide (Go.IntKind.wrap .i64 (9223372036854775807 - b) < a) then
      k (.tuple [.int .i64 (Prod.fst (S.mend (decide (0 < b)))), .int .i64 (Prod.snd (S.mend (decide (0 < b))))]) ([])
    else
      bif decide (b < 0) then
        bif decide (a < Go.IntKind.wrap .i64 (-9223372036854775808 - b)) then
          k (.tuple [.int .i64 (Prod.fst (S.mend (decide (0 < b)))), .int .i64 (Prod.snd (S.mend (decide (0 < b))))]) ([])
        else
          k (.tuple [.int .i64 (Go.IntKind.wrap .i64 (a + b)), .int .i64 0]) ([])
      else
        k (.tuple [.int .i64 (Go.IntKind.wrap .i64 (a + b)), .int .i64 0]) ([])
  else
    bif decide (b < 0) then
      bif decide (a < Go.IntKind.wrap .i64 (-9223372036854775808 - b)) then
        k (.tuple [.int .i64 (Prod.fst (S.mend (decide (0 < b)))), .int .i64 (Prod.snd (S.mend (decide (0 < b))))]) ([])
      else
        k (.tuple [.int .i64 (Go.IntKind.wrap .i64 (a + b)), .int .i64 0]) ([])
    else
      k (.tuple [.int .i64 (Go.IntKind.wrap .i64 (a + b)), .int .i64 0]) ([])) := by kernel_rfl
def S.madd (a b : Int) : Int × Int :=
  bif decide (0 < b) then
    bif decide (Go.IntKind.wrap .i64 (9223372036854775807 - b) < a) then
      (Prod.fst (S.mend (decide (0 < b))), Prod.snd (S.mend (decide (0 < b))))
    else
      bif decide (b < 0) then
        bif decide (a < Go.IntKind.wrap .i64 (-9223372036854775808 - b)) then
          (Prod.fst (S.mend (decide (0 < b))), Prod.snd (S.mend (decide (0 < b))))
        else
          (Go.IntKind.wrap .i64 (a + b), 0)
      else
        (Go.IntKind.wrap .i64 (a + b), 0)
  else
    bif decide (b < 0) then
      bif decide (a < Go.IntKind.wrap .i64 (-9223372036854775808 - b)) then
        (Prod.fst (S.mend (decide (0 < b))), Prod.snd (S.mend (decide (0 < b))))
      else
        (Go.IntKind.wrap .i64 (a + b), 0)
    else
      (Go.IntKind.wrap .i64 (a + b), 0)
theorem S.madd_v {R : Type} (a b : Int) (k : AVal → List Blk → Option R) : fnEval tis F47 0 G60 Try.f47 [.int .i64 a, .int .i64 b] [] k = k (.tuple [(.int .i64 (S.madd a b).1), (.int .i64 (S.madd a b).2)]) [] :=
  (S.madd_k a b k).trans (bif_lift (f := (fun v : Int × Int => k (.tuple [(.int .i64 v.1), (.int .i64 v.2)]) [])) (bif_lift (f := (fun v : Int × Int => k (.tuple [(.int .i64 v.1), (.int .i64 v.2)]) [])) rfl (bif_lift (f := (fun v : Int × Int => k (.tuple [(.int .i64 v.1), (.int .i64 v.2)]) [])) (bif_lift (f := (fun v : Int × Int => k (.tuple [(.int .i64 v.1), (.int .i64 v.2)]) [])) rfl rfl) rfl)) (bif_lift (f := (fun v : Int × Int => k (.tuple [(.int .i64 v.1), (.int .i64 v.2)]) [])) (bif_lift (f := (fun v : Int × Int => k (.tuple [(.int .i64 v.1), (.int .i64 v.2)]) [])) rfl rfl) rfl))
def H47 : Hnd := fun R args σ k => match args, σ with
  | [.int .i64 a, .int .i64 b], [] => k (.tuple [(.int .i64 (S.madd a b).1), (.int .i64 (S.madd a b).2)]) []
  | _, _ => none
theorem H47_ok : HndOk Try.prog 47 H47 := hnd_ok tis tisOk mixOk G60_ok F47 Try.func47 rfl (by
  intro R args σ k r h
  unfold H47 at h
  split at h
  · rename_i a b; exact ⟨0, (S.madd_v a b _).trans h⟩
  · cases h)
def G47 : Env := Env.add 47 H47 G60
theorem G47_ok : EnvOk Try.prog G47 := envAdd_ok H47_ok G60_ok

/-! plain.takes -/
def F46 : FCfg := ⟨keepAt [(0, [0]), (1, [3, 4]), (2, [2])], loopAt [], []⟩
theorem S.ptakes_k {R : Type} (x v : Int) (k : AVal → List Blk → Option R) : fnEval tis F46 0 G47 Try.f46 [.iface 26 (.agg [.int .i64 x, .int .i64 v])] [] k =
  (bif decide (0 ≤ x) then
    bif decide (x ≤ 1099511627776) then
      k (.bool (decide (0 ≤ v))) ([])
    else
      k (.bool false) ([])
  else
    k (.bool false) ([])) := by kernel_rfl
def S.ptakes (x v : Int) : Bool :=
  bif decide (0 ≤ x) then
    bif decide (x ≤ 1099511627776) then
      (decide (0 ≤ v))
    else
      (false)
  else
    (false)
theorem S.ptakes_v {R : Type} (x v : Int) (k : AVal → List Blk → Option R) : fnEval tis F46 0 G47 Try.f46 [.iface 26 (.agg [.int .i64 x, .int .i64 v])] [] k = k (.bool (S.ptakes x v)) [] :=
  (S.ptakes_k x v k).trans (bif_lift (f := (fun v : Bool => k (.bool v) [])) (bif_lift (f := (fun v : Bool => k (.bool v) [])) rfl rfl) rfl)
def H46 : Hnd := fun R args σ k => match args, σ with
  | [.iface 26 (.agg [.int .i64 x, .int .i64 v])], [] => k (.bool (S.ptakes x v)) []
  | _, _ => none
theorem H46_ok : HndOk Try.prog 46 H46 := hnd_ok tis tisOk mixOk G47_ok F46 Try.func46 rfl (by
  intro R args σ k r h
  unfold H46 at h
  split at h
  · rename_i x v; exact ⟨0, (S.ptakes_v x v _).trans h⟩
  · cases h)
def G46 : Env := Env.add 46 H46 G47
theorem G46_ok : EnvOk Try.prog G46 := envAdd_ok H46_ok G47_ok

/-! ring.Buckets -/
def F45 : FCfg := ⟨keepAt [(0, [0, 1]), (1, [4])], loopAt [], []⟩
theorem S.pbuckets_k {R : Type} (w g : Int) (k : AVal → List Blk → Option R) : fnEval tis F45 0 G46 Try.f45 [.int .i64 w, .int .i64 g] [] k =
  (bif decide (g = 0) then
    none
  else
    k (.int .i64 (Go.IntKind.wrap .i64 (Int.tdiv (Go.IntKind.wrap .i64 (Go.IntKind.wrap .i64 (w + g) - 1)) g))) ([])) := by kernel_rfl
def S.pbuckets (w g : Int) : Option (Int) :=
  bif decide (g = 0) then
    none
  else
    some (Go.IntKind.wrap .i64 (Int.tdiv (Go.IntKind.wrap .i64 (Go.IntKind.wrap .i64 (w + g) - 1)) g))
theorem S.pbuckets_v {R : Type} (w g : Int) (k : AVal → List Blk → Option R) : fnEval tis F45 0 G46 Try.f45 [.int .i64 w, .int .i64 g] [] k = oK (fun v : Int => k (.int .i64 v) []) (S.pbuckets w g) :=
  (S.pbuckets_k w g k).trans (bif_lift (f := (oK (fun v : Int => k (.int .i64 v) []))) rfl rfl)
def H45 : Hnd := fun R args σ k => match args, σ with
  | [.int .i64 w, .int .i64 g], [] => oK (fun v : Int => k (.int .i64 v) []) (S.pbuckets w g)
  | _, _ => none
theorem H45_ok : HndOk Try.prog 45 H45 := hnd_ok tis tisOk mixOk G46_ok F45 Try.func45 rfl (by
  intro R args σ k r h
  unfold H45 at h
  split at h
  · rename_i w g; exact ⟨0, (S.pbuckets_v w g _).trans h⟩
  · cases h)
def G45 : Env := Env.add 45 H45 G46
theorem G45_ok : EnvOk Try.prog G45 := envAdd_ok H45_ok G46_ok

/-! ring.New -/
def F23 : FCfg := ⟨keepAt [(0, [0, 1]), (1, [0, 1, 19]), (2, [4]), (3, [4])], loopAt [], []⟩
theorem S.pring_k {R : Type} (w g : Int) (k : AVal → List Blk → Option R) : fnEval tis F23 0 G45 Try.f23 [.int .i64 w, .int .i64 g] [] k =
  (bif decide (w < 1) then
    k (.nilp) ([])
  else
    bif decide (600 < w) then
      k (.nilp) ([])
    else
      bif decide (g < 1) then
        k (.nilp) ([])
      else
        bif decide (w < g) then
          k (.nilp) ([])
        else
          (optK (S.pbuckets w g) fun o6 =>
            k (.ptr 0 0 0) ([.var [.nils, .int .i64 w, .int .i64 g, .int .i64 o6, .int .i64 (-1), .bool false]]))) := by kernel_rfl
def S.pring (w g : Int) : Option ((Unit) ⊕ (Int × Int × Int)) :=
  bif decide (w < 1) then
    some (.inl ())
  else
    bif decide (600 < w) then
      some (.inl ())
    else
      bif decide (g < 1) then
        some (.inl ())
      else
        bif decide (w < g) then
          some (.inl ())
        else
          (optK (S.pbuckets w g) fun o6 =>
            some (.inr (w, g, o6)))
theorem S.pring_v {R : Type} (w g : Int) (k : AVal → List Blk → Option R) : fnEval tis F23 0 G45 Try.f23 [.int .i64 w, .int .i64 g] [] k = oK (Sum.elim (fun v : Unit => k .nilp []) (fun v : Int × Int × Int => k (.ptr 0 (0) 0) [(.var [.nils, (.int .i64 v.1), (.int .i64 v.2.1), (.int .i64 v.2.2), (.int .i64 (-1)), (.bool (false))])])) (S.pring w g) :=
  (S.pring_k w g k).trans (bif_lift (f := (oK (Sum.elim (fun v : Unit => k .nilp []) (fun v : Int × Int × Int => k (.ptr 0 (0) 0) [(.var [.nils, (.int .i64 v.1), (.int .i64 v.2.1), (.int .i64 v.2.2), (.int .i64 (-1)), (.bool (false))])])))) rfl (bif_lift (f := (oK (Sum.elim (fun v : Unit => k .nilp []) (fun v : Int × Int × Int => k (.ptr 0 (0) 0) [(.var [.nils, (.int .i64 v.1), (.int .i64 v.2.1), (.int .i64 v.2.2), (.int .i64 (-1)), (.bool (false))])])))) rfl (bif_lift (f := (oK (Sum.elim (fun v : Unit => k .nilp []) (fun v : Int × Int × Int => k (.ptr 0 (0) 0) [(.var [.nils, (.int .i64 v.1), (.int .i64 v.2.1), (.int .i64 v.2.2), (.int .i64 (-1)), (.bool (false))])])))) rfl (bif_lift (f := (oK (Sum.elim (fun v : Unit => k .nilp []) (fun v : Int × Int × Int => k (.ptr 0 (0) 0) [(.var [.nils, (.int .i64 v.1), (.int .i64 v.2.1), (.int .i64 v.2.2), (.int .i64 (-1)), (.bool (false))])])))) rfl (opt_lift fun o6 => rfl)))))
def H23 : Hnd := fun R args σ k => match args, σ with
  | [.int .i64 w, .int .i64 g], [] => oK (Sum.elim (fun v : Unit => k .nilp []) (fun v : Int × Int × Int => k (.ptr 0 (0) 0) [(.var [.nils, (.int .i64 v.1), (.int .i64 v.2.1), (.int .i64 v.2.2), (.int .i64 (-1)), (.bool (false))])])) (S.pring w g)
  | _, _ => none
theorem H23_ok : HndOk Try.prog 23 H23 := hnd_ok tis tisOk mixOk G45_ok F23 Try.func23 rfl (by
  intro R args σ k r h
  unfold H23 at h
  split at h
  · rename_i w g; exact ⟨0, (S.pring_v w g _).trans h⟩
  · cases h)
def G23 : Env := Env.add 23 H23 G45
theorem G23_ok : EnvOk Try.prog G23 := envAdd_ok H23_ok G45_ok

/-! plain.Newest -/
def F19 : FCfg := ⟨keepAt [(0, [0]), (1, [0, 3]), (2, [3, 6, 7, 8]), (3, [3, 6, 7, 8, 9]), (4, [3, 5, 6, 7, 8]), (5, [3, 5, 6, 7, 8, 14]), (6, [3, 6, 7, 8]), (7, [3, 6, 7, 8]), (8, [2])], loopAt [(3, [3, 6, 7, 8], [])], []⟩
noncomputable def C_pnewest (fu : Nat) (l : RL) (lo len : Nat) (ro : Bool) : Cfg := Cfg.of tis F19 fu (List.length ([.rows (.pair (.int .i64) (.int .i64)) l ro] : List Blk)) Try.f19.ntmps
noncomputable def S.pnewest_b0 : Code := codeAt (bodyOf Try.f19) [1, 1, 0, 1, 0, 0]
noncomputable def S.pnewest_s0 (l : RL) (lo len : Nat) (ro : Bool) (y0 : Int) (y1 : Int) : St := ⟨[(3, (.int .i64 (y0))), (6, (.slice 2 0 (lo) (len) none)), (7, (.int .i64 (((len : Nat) : Int)))), (8, (.int .i64 (y1)))], [(.rows (Cd.pair (Cd.int .i64) (Cd.int .i64)) (l) ro)]⟩
noncomputable def S.pnewest_x0_0 (l : RL) (lo len : Nat) (ro : Bool) (z0 : Int) (z1 : Int) (z2 : Bool) : St := ⟨[(3, (.int .i64 (z0))), (6, (.slice 2 0 (lo) (len) none)), (7, (.int .i64 (((len : Nat) : Int)))), (8, (.int .i64 (z1))), (9, (.bool (z2)))], [(.rows (Cd.pair (Cd.int .i64) (Cd.int .i64)) (l) ro)]⟩
noncomputable def S.pnewest_g0 {R : Type} (l : RL) (lo len : Nat) (ro : Bool) (K : Ex → St → Option R) : ((Int × Int × Bool)) → Option R := (fun z : Int × Int × Bool => K (Ex.exit 0) (S.pnewest_x0_0 l lo len ro (z.1) (z.2.1) (z.2.2)))
noncomputable def S.pnewest_gk {R : Type} (l : RL) (lo len : Nat) (ro : Bool) (k : AVal → List Blk → Option R) : (Int) → Option R := (fun v : Int => k (.int .i64 v) [.rows (.pair (.int .i64) (.int .i64)) l ro])
theorem S.pnewest_l0_k {R : Type} (fu : Nat) (l : RL) (lo len : Nat) (ro : Bool) (n : Nat) (K : Ex → St → Option R) (y0 : Int) (y1 : Int) : loopRun (C_pnewest fu l lo len ro) G23 S.pnewest_b0 (n + 1) (S.pnewest_s0 l lo len ro (y0) (y1)) K =
  (bif decide (y1 < ((len : Nat) : Int)) then
    bif inB y1 len then
      (optK (l[Int.toNat y1 + lo]?) fun o4 =>
        bif S.ptakes o4.1 o4.2 then
          loopRun (C_pnewest fu l lo len ro) G23 S.pnewest_b0 n (S.pnewest_s0 l lo len ro (if o4.1 > y0 then o4.1 else y0) (Go.IntKind.wrap .i64 (y1 + 1))) K
        else
          loopRun (C_pnewest fu l lo len ro) G23 S.pnewest_b0 n (S.pnewest_s0 l lo len ro (y0) (Go.IntKind.wrap .i64 (y1 + 1))) K)
    else
      none
  else
    K (Ex.exit 0) (S.pnewest_x0_0 l lo len ro (y0) (y1) (decide (y1 < ((len : Nat) : Int))))) := by kernel_rfl
def S.pnewest_l0 (fu : Nat) (l : RL) (lo len : Nat) (ro : Bool) : Nat → (Int) → (Int) → Option ((Int × Int × Bool))
  | 0, _, _ => none
  | n + 1, y0, y1 =>
    bif decide (y1 < ((len : Nat) : Int)) then
      bif inB y1 len then
        (optK (l[Int.toNat y1 + lo]?) fun o4 =>
          bif S.ptakes o4.1 o4.2 then
            (S.pnewest_l0 fu l lo len ro n) (if o4.1 > y0 then o4.1 else y0) (Go.IntKind.wrap .i64 (y1 + 1))
          else
            (S.pnewest_l0 fu l lo len ro n) (y0) (Go.IntKind.wrap .i64 (y1 + 1)))
      else
        none
    else
      some (y0, y1, decide (y1 < ((len : Nat) : Int)))
theorem S.pnewest_l0_v {R : Type} (fu : Nat) (l : RL) (lo len : Nat) (ro : Bool) (K : Ex → St → Option R) : ∀ (n : Nat) (y0 : Int) (y1 : Int), loopRun (C_pnewest fu l lo len ro) G23 S.pnewest_b0 n (S.pnewest_s0 l lo len ro (y0) (y1)) K = oK (β := (Int × Int × Bool)) (S.pnewest_g0 l lo len ro K) (S.pnewest_l0 fu l lo len ro n y0 y1)
  | 0, _, _ => rfl
  | n + 1, y0, y1 => (S.pnewest_l0_k fu l lo len ro n K y0 y1).trans (bif_lift (f := (oK (β := (Int × Int × Bool)) (S.pnewest_g0 l lo len ro K))) (bif_lift (f := (oK (β := (Int × Int × Bool)) (S.pnewest_g0 l lo len ro K))) (opt_lift fun o4 => (bif_lift (f := (oK (β := (Int × Int × Bool)) (S.pnewest_g0 l lo len ro K))) (S.pnewest_l0_v fu l lo len ro K n (if o4.1 > y0 then o4.1 else y0) (Go.IntKind.wrap .i64 (y1 + 1))) (S.pnewest_l0_v fu l lo len ro K n (y0) (Go.IntKind.wrap .i64 (y1 + 1))))) rfl) rfl)
theorem S.pnewest_a0_0_k {R : Type} (fu : Nat) (l : RL) (lo len : Nat) (ro : Bool) (z0 : Int) (z1 : Int) (z2 : Bool) (k : AVal → List Blk → Option R) : contOf (C_pnewest fu l lo len ro) G23 (bodyOf Try.f19) [1, 1, 0, 1, 0] (retK tis F19 Try.f19 (List.length ([.rows (.pair (.int .i64) (.int .i64)) l ro] : List Blk)) k) (Ex.exit 0) (S.pnewest_x0_0 l lo len ro (z0) (z1) (z2)) =
  (k (.int .i64 z0) ([.rows (Cd.pair (Cd.int .i64) (Cd.int .i64)) l ro])) := by kernel_rfl
def S.pnewest_a0_0 (fu : Nat) (l : RL) (lo len : Nat) (ro : Bool) (z0 : Int) (z1 : Int) (z2 : Bool) : Option (Int) :=
  some (z0)
theorem S.pnewest_a0_0_v {R : Type} (fu : Nat) (l : RL) (lo len : Nat) (ro : Bool) (z0 : Int) (z1 : Int) (z2 : Bool) (k : AVal → List Blk → Option R) : contOf (C_pnewest fu l lo len ro) G23 (bodyOf Try.f19) [1, 1, 0, 1, 0] (retK tis F19 Try.f19 (List.length ([.rows (.pair (.int .i64) (.int .i64)) l ro] : List Blk)) k) (Ex.exit 0) (S.pnewest_x0_0 l lo len ro (z0) (z1) (z2)) = oK (S.pnewest_gk l lo len ro k) (S.pnewest_a0_0 fu l lo len ro z0 z1 z2) :=
  (S.pnewest_a0_0_k fu l lo len ro z0 z1 z2 k).trans rfl
theorem S.pnewest_k {R : Type} (fu : Nat) (l : RL) (lo len : Nat) (ro : Bool) (k : AVal → List Blk → Option R) : fnEval tis F19 fu G23 Try.f19 [.slice 2 0 lo len none] [.rows (.pair (.int .i64) (.int .i64)) l ro] k =
  (loopRun (C_pnewest fu l lo len ro) G23 S.pnewest_b0 fu (S.pnewest_s0 l lo len ro (-1) (0)) (contOf (C_pnewest fu l lo len ro) G23 (bodyOf Try.f19) [1, 1, 0, 1, 0] (retK tis F19 Try.f19 (List.length ([.rows (.pair (.int .i64) (.int .i64)) l ro] : List Blk)) k))) := by kernel_rfl
def S.pnewest (fu : Nat) (l : RL) (lo len : Nat) (ro : Bool) : Option (Int) :=
  optK (S.pnewest_l0 fu l lo len ro fu (-1) (0)) (fun z : Int × Int × Bool => S.pnewest_a0_0 fu l lo len ro (z.1) (z.2.1) (z.2.2))
theorem S.pnewest_v {R : Type} (fu : Nat) (l : RL) (lo len : Nat) (ro : Bool) (k : AVal → List Blk → Option R) : fnEval tis F19 fu G23 Try.f19 [.slice 2 0 lo len none] [.rows (.pair (.int .i64) (.int .i64)) l ro] k = oK (fun v : Int => k (.int .i64 v) [.rows (.pair (.int .i64) (.int .i64)) l ro]) (S.pnewest fu l lo len ro) :=
  (S.pnewest_k fu l lo len ro k).trans (arr_lift (S.pnewest_l0_v fu l lo len ro (contOf (C_pnewest fu l lo len ro) G23 (bodyOf Try.f19) [1, 1, 0, 1, 0] (retK tis F19 Try.f19 (List.length ([.rows (.pair (.int .i64) (.int .i64)) l ro] : List Blk)) k)) fu (-1) (0)) ((fun z => S.pnewest_a0_0_v fu l lo len ro (z.1) (z.2.1) (z.2.2) k)))
noncomputable def C_pnewest1 (fu : Nat)  : Cfg := Cfg.of tis F19 fu (List.length ([] : List Blk)) Try.f19.ntmps
noncomputable def S.pnewest1_b0 : Code := codeAt (bodyOf Try.f19) [1, 1, 0, 1, 0, 0]
noncomputable def S.pnewest1_s0   : St := ⟨[(3, (.int .i64 (-1))), (6, .nils), (7, (.int .i64 (0))), (8, (.int .i64 (0)))], []⟩
noncomputable def S.pnewest1_x0_0   : St := ⟨[(3, (.int .i64 (-1))), (6, .nils), (7, (.int .i64 (0))), (8, (.int .i64 (0))), (9, (.bool (false)))], []⟩
noncomputable def S.pnewest1_g0 {R : Type}  (K : Ex → St → Option R) : ((Unit)) → Option R := (fun z : Unit => K (Ex.exit 0) (S.pnewest1_x0_0 ))
noncomputable def S.pnewest1_gk {R : Type}  (k : AVal → List Blk → Option R) : (Int) → Option R := (fun v : Int => k (.int .i64 v) [])
theorem S.pnewest1_l0_k {R : Type} (fu : Nat)  (n : Nat) (K : Ex → St → Option R)  : loopRun (C_pnewest1 fu ) G23 S.pnewest1_b0 (n + 1) (S.pnewest1_s0 ) K =
  (K (Ex.exit 0) (S.pnewest1_x0_0 )) := by kernel_rfl
def S.pnewest1_l0 (fu : Nat)  : Nat → Option ((Unit))
  | 0 => none
  | n + 1 =>
    some ()
theorem S.pnewest1_l0_v {R : Type} (fu : Nat)  (K : Ex → St → Option R) : ∀ (n : Nat) , loopRun (C_pnewest1 fu ) G23 S.pnewest1_b0 n (S.pnewest1_s0 ) K = oK (β := (Unit)) (S.pnewest1_g0  K) (S.pnewest1_l0 fu  n)
  | 0 => rfl
  | n + 1 => (S.pnewest1_l0_k fu  n K).trans rfl
theorem S.pnewest1_a0_0_k {R : Type} (fu : Nat)   (k : AVal → List Blk → Option R) : contOf (C_pnewest1 fu ) G23 (bodyOf Try.f19) [1, 1, 0, 1, 0] (retK tis F19 Try.f19 (List.length ([] : List Blk)) k) (Ex.exit 0) (S.pnewest1_x0_0 ) =
  (k (.int .i64 (-1)) ([])) := by kernel_rfl
def S.pnewest1_a0_0 (fu : Nat)   : Option (Int) :=
  some (-1)
theorem S.pnewest1_a0_0_v {R : Type} (fu : Nat)   (k : AVal → List Blk → Option R) : contOf (C_pnewest1 fu ) G23 (bodyOf Try.f19) [1, 1, 0, 1, 0] (retK tis F19 Try.f19 (List.length ([] : List Blk)) k) (Ex.exit 0) (S.pnewest1_x0_0 ) = oK (S.pnewest1_gk  k) (S.pnewest1_a0_0 fu ) :=
  (S.pnewest1_a0_0_k fu  k).trans rfl
theorem S.pnewest1_k {R : Type} (fu : Nat)  (k : AVal → List Blk → Option R) : fnEval tis F19 fu G23 Try.f19 [.nils] [] k =
  (loopRun (C_pnewest1 fu ) G23 S.pnewest1_b0 fu (S.pnewest1_s0 ) (contOf (C_pnewest1 fu ) G23 (bodyOf Try.f19) [1, 1, 0, 1, 0] (retK tis F19 Try.f19 (List.length ([] : List Blk)) k))) := by kernel_rfl
def S.pnewest1 (fu : Nat)  : Option (Int) :=
  optK (S.pnewest1_l0 fu  fu) (fun z : Unit => S.pnewest1_a0_0 fu )
theorem S.pnewest1_v {R : Type} (fu : Nat)  (k : AVal → List Blk → Option R) : fnEval tis F19 fu G23 Try.f19 [.nils] [] k = oK (fun v : Int => k (.int .i64 v) []) (S.pnewest1 fu ) :=
  (S.pnewest1_k fu  k).trans (arr_lift (S.pnewest1_l0_v fu  (contOf (C_pnewest1 fu ) G23 (bodyOf Try.f19) [1, 1, 0, 1, 0] (retK tis F19 Try.f19 (List.length ([] : List Blk)) k)) fu) ((fun z => S.pnewest1_a0_0_v fu  k)))
def H19 : Hnd := fun R args σ k => match args, σ with
  | [.slice 2 0 lo len none], [.rows (.pair (.int .i64) (.int .i64)) l ro] => oK (fun v : Int => k (.int .i64 v) []) (S.pnewest 100000 l lo len ro)
  | [.nils], [] => oK (fun v : Int => k (.int .i64 v) []) (S.pnewest1 100000)
  | _, _ => none
theorem H19_ok : HndOk Try.prog 19 H19 := hnd_ok_pure tis tisOk mixOk G23_ok F19 Try.func19 rfl (by
  intro R args σ k r h
  unfold H19 at h
  split at h
  · rename_i lo len l ro; exact ⟨100000, (S.pnewest_v 100000 l lo len ro _).trans ((congrArg (fun g9 => oK g9 (S.pnewest 100000 l lo len ro)) (funext fun v => if_pos rfl)).trans h)⟩
  · exact ⟨100000, (S.pnewest1_v 100000 _).trans ((congrArg (fun g9 => oK g9 (S.pnewest1 100000)) (funext fun v => if_pos rfl)).trans h)⟩
  · cases h)
def G19 : Env := Env.add 19 H19 G23
theorem G19_ok : EnvOk Try.prog G19 := envAdd_ok H19_ok G23_ok

/-! plain.Steady -/
def F21 : FCfg := ⟨keepAt [(0, [0, 1]), (1, [1, 7, 8, 9]), (2, [1, 7, 8, 9, 10]), (3, [1, 6, 7, 8, 9]), (4, [1, 7, 8, 9, 21]), (5, [4]), (6, [1, 7, 8, 9]), (7, [4])], loopAt [(2, [1, 7, 8, 9], [])], []⟩
noncomputable def C_psteady (fu : Nat) (l : RL) (lo len : Nat) (ro : Bool) (v : Int) : Cfg := Cfg.of tis F21 fu (List.length ([.rows (.pair (.int .i64) (.int .i64)) l ro] : List Blk)) Try.f21.ntmps
noncomputable def S.psteady_b0 : Code := codeAt (bodyOf Try.f21) [1, 0, 1, 0, 0]
noncomputable def S.psteady_s0 (l : RL) (lo len : Nat) (ro : Bool) (v : Int) (y0 : Int) : St := ⟨[(1, (.int .i64 (v))), (7, (.slice 2 0 (lo) (len) none)), (8, (.int .i64 (((len : Nat) : Int)))), (9, (.int .i64 (y0)))], [(.rows (Cd.pair (Cd.int .i64) (Cd.int .i64)) (l) ro)]⟩
noncomputable def S.psteady_x0_0 (l : RL) (lo len : Nat) (ro : Bool) (v : Int) (z0 : Int) (z1 : Int) : St := ⟨[(4, (.bool (false)))], [(.rows (Cd.pair (Cd.int .i64) (Cd.int .i64)) (l) ro), (.var [(.int .i64 (z0)), (.int .i64 (z1))])]⟩
noncomputable def S.psteady_x0_1 (l : RL) (lo len : Nat) (ro : Bool) (v : Int) (z0 : Int) (z1 : Bool) : St := ⟨[(1, (.int .i64 (v))), (7, (.slice 2 0 (lo) (len) none)), (8, (.int .i64 (((len : Nat) : Int)))), (9, (.int .i64 (z0))), (10, (.bool (z1)))], [(.rows (Cd.pair (Cd.int .i64) (Cd.int .i64)) (l) ro)]⟩
noncomputable def S.psteady_g0 {R : Type} (l : RL) (lo len : Nat) (ro : Bool) (v : Int) (K : Ex → St → Option R) : ((Int × Int) ⊕ (Int × Bool)) → Option R := (Sum.elim (fun z : Int × Int => K (Ex.ret) (S.psteady_x0_0 l lo len ro v (z.1) (z.2))) (fun z : Int × Bool => K (Ex.exit 0) (S.psteady_x0_1 l lo len ro v (z.1) (z.2))))
noncomputable def S.psteady_gk {R : Type} (l : RL) (lo len : Nat) (ro : Bool) (v : Int) (k : AVal → List Blk → Option R) : (Bool) → Option R := (fun v : Bool => k (.bool v) [.rows (.pair (.int .i64) (.int .i64)) l ro])
theorem S.psteady_l0_k {R : Type} (fu : Nat) (l : RL) (lo len : Nat) (ro : Bool) (v : Int) (n : Nat) (K : Ex → St → Option R) (y0 : Int) : loopRun (C_psteady fu l lo len ro v) G19 S.psteady_b0 (n + 1) (S.psteady_s0 l lo len ro v (y0)) K =
  (bif decide (y0 < ((len : Nat) : Int)) then
    bif inB y0 len then
      (optK (l[Int.toNat y0 + lo]?) fun o4 =>
        bif S.ptakes o4.1 o4.2 then
          bif !decide (o4.2 = v) then
            K (Ex.ret) (S.psteady_x0_0 l lo len ro v (o4.1) (o4.2))
          else
            loopRun (C_psteady fu l lo len ro v) G19 S.psteady_b0 n (S.psteady_s0 l lo len ro v (Go.IntKind.wrap .i64 (y0 + 1))) K
        else
          loopRun (C_psteady fu l lo len ro v) G19 S.psteady_b0 n (S.psteady_s0 l lo len ro v (Go.IntKind.wrap .i64 (y0 + 1))) K)
    else
      none
  else
    K (Ex.exit 0) (S.psteady_x0_1 l lo len ro v (y0) (decide (y0 < ((len : Nat) : Int))))) := by kernel_rfl
def S.psteady_l0 (fu : Nat) (l : RL) (lo len : Nat) (ro : Bool) (v : Int) : Nat → (Int) → Option ((Int × Int) ⊕ (Int × Bool))
  | 0, _ => none
  | n + 1, y0 =>
    bif decide (y0 < ((len : Nat) : Int)) then
      bif inB y0 len then
        (optK (l[Int.toNat y0 + lo]?) fun o4 =>
          bif S.ptakes o4.1 o4.2 then
            bif !decide (o4.2 = v) then
              some (.inl (o4.1, o4.2))
            else
              (S.psteady_l0 fu l lo len ro v n) (Go.IntKind.wrap .i64 (y0 + 1))
          else
            (S.psteady_l0 fu l lo len ro v n) (Go.IntKind.wrap .i64 (y0 + 1)))
      else
        none
    else
      some (.inr (y0, decide (y0 < ((len : Nat) : Int))))
theorem S.psteady_l0_v {R : Type} (fu : Nat) (l : RL) (lo len : Nat) (ro : Bool) (v : Int) (K : Ex → St → Option R) : ∀ (n : Nat) (y0 : Int), loopRun (C_psteady fu l lo len ro v) G19 S.psteady_b0 n (S.psteady_s0 l lo len ro v (y0)) K = oK (β := (Int × Int) ⊕ (Int × Bool)) (S.psteady_g0 l lo len ro v K) (S.psteady_l0 fu l lo len ro v n y0)
  | 0, _ => rfl
  | n + 1, y0 => (S.psteady_l0_k fu l lo len ro v n K y0).trans (bif_lift (f := (oK (β := (Int × Int) ⊕ (Int × Bool)) (S.psteady_g0 l lo len ro v K))) (bif_lift (f := (oK (β := (Int × Int) ⊕ (Int × Bool)) (S.psteady_g0 l lo len ro v K))) (opt_lift fun o4 => (bif_lift (f := (oK (β := (Int × Int) ⊕ (Int × Bool)) (S.psteady_g0 l lo len ro v K))) (bif_lift (f := (oK (β := (Int × Int) ⊕ (Int × Bool)) (S.psteady_g0 l lo len ro v K))) rfl (S.psteady_l0_v fu l lo len ro v K n (Go.IntKind.wrap .i64 (y0 + 1)))) (S.psteady_l0_v fu l lo len ro v K n (Go.IntKind.wrap .i64 (y0 + 1))))) rfl) rfl)
theorem S.psteady_a0_1_k {R : Type} (fu : Nat) (l : RL) (lo len : Nat) (ro : Bool) (v : Int) (z0 : Int) (z1 : Bool) (k : AVal → List Blk → Option R) : contOf (C_psteady fu l lo len ro v) G19 (bodyOf Try.f21) [1, 0, 1, 0] (retK tis F21 Try.f21 (List.length ([.rows (.pair (.int .i64) (.int .i64)) l ro] : List Blk)) k) (Ex.exit 0) (S.psteady_x0_1 l lo len ro v (z0) (z1)) =
  (k (.bool true) ([.rows (Cd.pair (Cd.int .i64) (Cd.int .i64)) l ro])) := by kernel_rfl
def S.psteady_a0_1 (fu : Nat) (l : RL) (lo len : Nat) (ro : Bool) (v : Int) (z0 : Int) (z1 : Bool) : Option (Bool) :=
  some (true)
theorem S.psteady_a0_1_v {R : Type} (fu : Nat) (l : RL) (lo len : Nat) (ro : Bool) (v : Int) (z0 : Int) (z1 : Bool) (k : AVal → List Blk → Option R) : contOf (C_psteady fu l lo len ro v) G19 (bodyOf Try.f21) [1, 0, 1, 0] (retK tis F21 Try.f21 (List.length ([.rows (.pair (.int .i64) (.int .i64)) l ro] : List Blk)) k) (Ex.exit 0) (S.psteady_x0_1 l lo len ro v (z0) (z1)) = oK (S.psteady_gk l lo len ro v k) (S.psteady_a0_1 fu l lo len ro v z0 z1) :=
  (S.psteady_a0_1_k fu l lo len ro v z0 z1 k).trans rfl
theorem S.psteady_a0_0_k {R : Type} (fu : Nat) (l : RL) (lo len : Nat) (ro : Bool) (v : Int) (z0 : Int) (z1 : Int) (k : AVal → List Blk → Option R) : contOf (C_psteady fu l lo len ro v) G19 (bodyOf Try.f21) [1, 0, 1, 0] (retK tis F21 Try.f21 (List.length ([.rows (.pair (.int .i64) (.int .i64)) l ro] : List Blk)) k) (Ex.ret) (S.psteady_x0_0 l lo len ro v (z0) (z1)) =
  (k (.bool false) ([.rows (Cd.pair (Cd.int .i64) (Cd.int .i64)) l ro])) := by kernel_rfl
def S.psteady_a0_0 (fu : Nat) (l : RL) (lo len : Nat) (ro : Bool) (v : Int) (z0 : Int) (z1 : Int) : Option (Bool) :=
  some (false)
theorem S.psteady_a0_0_v {R : Type} (fu : Nat) (l : RL) (lo len : Nat) (ro : Bool) (v : Int) (z0 : Int) (z1 : Int) (k : AVal → List Blk → Option R) : contOf (C_psteady fu l lo len ro v) G19 (bodyOf Try.f21) [1, 0, 1, 0] (retK tis F21 Try.f21 (List.length ([.rows (.pair (.int .i64) (.int .i64)) l ro] : List Blk)) k) (Ex.ret) (S.psteady_x0_0 l lo len ro v (z0) (z1)) = oK (S.psteady_gk l lo len ro v k) (S.psteady_a0_0 fu l lo len ro v z0 z1) :=
  (S.psteady_a0_0_k fu l lo len ro v z0 z1 k).trans rfl
theorem S.psteady_k {R : Type} (fu : Nat) (l : RL) (lo len : Nat) (ro : Bool) (v : Int) (k : AVal → List Blk → Option R) : fnEval tis F21 fu G19 Try.f21 [.slice 2 0 lo len none, .int .i64 v] [.rows (.pair (.int .i64) (.int .i64)) l ro] k =
  (loopRun (C_psteady fu l lo len ro v) G19 S.psteady_b0 fu (S.psteady_s0 l lo len ro v (0)) (contOf (C_psteady fu l lo len ro v) G19 (bodyOf Try.f21) [1, 0, 1, 0] (retK tis F21 Try.f21 (List.length ([.rows (.pair (.int .i64) (.int .i64)) l ro] : List Blk)) k))) := by kernel_rfl
def S.psteady (fu : Nat) (l : RL) (lo len : Nat) (ro : Bool) (v : Int) : Option (Bool) :=
  optK (S.psteady_l0 fu l lo len ro v fu (0)) (Sum.elim (fun z : Int × Int => S.psteady_a0_0 fu l lo len ro v (z.1) (z.2)) (fun z : Int × Bool => S.psteady_a0_1 fu l lo len ro v (z.1) (z.2)))
theorem S.psteady_v {R : Type} (fu : Nat) (l : RL) (lo len : Nat) (ro : Bool) (v : Int) (k : AVal → List Blk → Option R) : fnEval tis F21 fu G19 Try.f21 [.slice 2 0 lo len none, .int .i64 v] [.rows (.pair (.int .i64) (.int .i64)) l ro] k = oK (fun v : Bool => k (.bool v) [.rows (.pair (.int .i64) (.int .i64)) l ro]) (S.psteady fu l lo len ro v) :=
  (S.psteady_k fu l lo len ro v k).trans (arr_lift (S.psteady_l0_v fu l lo len ro v (contOf (C_psteady fu l lo len ro v) G19 (bodyOf Try.f21) [1, 0, 1, 0] (retK tis F21 Try.f21 (List.length ([.rows (.pair (.int .i64) (.int .i64)) l ro] : List Blk)) k)) fu (0)) ((sum_lift (fun z => S.psteady_a0_0_v fu l lo len ro v (z.1) (z.2) k) (fun z => S.psteady_a0_1_v fu l lo len ro v (z.1) (z.2) k))))
noncomputable def C_psteady1 (fu : Nat) (v : Int) : Cfg := Cfg.of tis F21 fu (List.length ([] : List Blk)) Try.f21.ntmps
noncomputable def S.psteady1_b0 : Code := codeAt (bodyOf Try.f21) [1, 0, 1, 0, 0]
noncomputable def S.psteady1_s0 (v : Int)  : St := ⟨[(1, (.int .i64 (v))), (7, .nils), (8, (.int .i64 (0))), (9, (.int .i64 (0)))], []⟩
noncomputable def S.psteady1_x0_0 (v : Int)  : St := ⟨[(1, (.int .i64 (v))), (7, .nils), (8, (.int .i64 (0))), (9, (.int .i64 (0))), (10, (.bool (false)))], []⟩
noncomputable def S.psteady1_g0 {R : Type} (v : Int) (K : Ex → St → Option R) : ((Unit)) → Option R := (fun z : Unit => K (Ex.exit 0) (S.psteady1_x0_0 v))
noncomputable def S.psteady1_gk {R : Type} (v : Int) (k : AVal → List Blk → Option R) : (Bool) → Option R := (fun v : Bool => k (.bool v) [])
theorem S.psteady1_l0_k {R : Type} (fu : Nat) (v : Int) (n : Nat) (K : Ex → St → Option R)  : loopRun (C_psteady1 fu v) G19 S.psteady1_b0 (n + 1) (S.psteady1_s0 v) K =
  (K (Ex.exit 0) (S.psteady1_x0_0 v)) := by kernel_rfl
def S.psteady1_l0 (fu : Nat) (v : Int) : Nat → Option ((Unit))
  | 0 => none
  | n + 1 =>
    some ()
theorem S.psteady1_l0_v {R : Type} (fu : Nat) (v : Int) (K : Ex → St → Option R) : ∀ (n : Nat) , loopRun (C_psteady1 fu v) G19 S.psteady1_b0 n (S.psteady1_s0 v) K = oK (β := (Unit)) (S.psteady1_g0 v K) (S.psteady1_l0 fu v n)
  | 0 => rfl
  | n + 1 => (S.psteady1_l0_k fu v n K).trans rfl
theorem S.psteady1_a0_0_k {R : Type} (fu : Nat) (v : Int)  (k : AVal → List Blk → Option R) : contOf (C_psteady1 fu v) G19 (bodyOf Try.f21) [1, 0, 1, 0] (retK tis F21 Try.f21 (List.length ([] : List Blk)) k) (Ex.exit 0) (S.psteady1_x0_0 v) =
  (k (.bool true) ([])) := by kernel_rfl
def S.psteady1_a0_0 (fu : Nat) (v : Int)  : Option (Bool) :=
  some (true)
theorem S.psteady1_a0_0_v {R : Type} (fu : Nat) (v : Int)  (k : AVal → List Blk → Option R) : contOf (C_psteady1 fu v) G19 (bodyOf Try.f21) [1, 0, 1, 0] (retK tis F21 Try.f21 (List.length ([] : List Blk)) k) (Ex.exit 0) (S.psteady1_x0_0 v) = oK (S.psteady1_gk v k) (S.psteady1_a0_0 fu v) :=
  (S.psteady1_a0_0_k fu v k).trans rfl
theorem S.psteady1_k {R : Type} (fu : Nat) (v : Int) (k : AVal → List Blk → Option R) : fnEval tis F21 fu G19 Try.f21 [.nils, .int .i64 v] [] k =
  (loopRun (C_psteady1 fu v) G19 S.psteady1_b0 fu (S.psteady1_s0 v) (contOf (C_psteady1 fu v) G19 (bodyOf Try.f21) [1, 0, 1, 0] (retK tis F21 Try.f21 (List.length ([] : List Blk)) k))) := by kernel_rfl
def S.psteady1 (fu : Nat) (v : Int) : Option (Bool) :=
  optK (S.psteady1_l0 fu v fu) (fun z : Unit => S.psteady1_a0_0 fu v)
theorem S.psteady1_v {R : Type} (fu : Nat) (v : Int) (k : AVal → List Blk → Option R) : fnEval tis F21 fu G19 Try.f21 [.nils, .int .i64 v] [] k = oK (fun v : Bool => k (.bool v) []) (S.psteady1 fu v) :=
  (S.psteady1_k fu v k).trans (arr_lift (S.psteady1_l0_v fu v (contOf (C_psteady1 fu v) G19 (bodyOf Try.f21) [1, 0, 1, 0] (retK tis F21 Try.f21 (List.length ([] : List Blk)) k)) fu) ((fun z => S.psteady1_a0_0_v fu v k)))
def H21 : Hnd := fun R args σ k => match args, σ with
  | [.slice 2 0 lo len none, .int .i64 v], [.rows (.pair (.int .i64) (.int .i64)) l ro] => oK (fun v : Bool => k (.bool v) []) (S.psteady 100000 l lo len ro v)
  | [.nils, .int .i64 v], [] => oK (fun v : Bool => k (.bool v) []) (S.psteady1 100000 v)
  | _, _ => none
theorem H21_ok : HndOk Try.prog 21 H21 := hnd_ok_pure tis tisOk mixOk G19_ok F21 Try.func21 rfl (by
  intro R args σ k r h
  unfold H21 at h
  split at h
  · rename_i lo len v l ro; exact ⟨100000, (S.psteady_v 100000 l lo len ro v _).trans ((congrArg (fun g9 => oK g9 (S.psteady 100000 l lo len ro v)) (funext fun v => if_pos rfl)).trans h)⟩
  · rename_i v; exact ⟨100000, (S.psteady1_v 100000 v _).trans ((congrArg (fun g9 => oK g9 (S.psteady1 100000 v)) (funext fun v => if_pos rfl)).trans h)⟩
  · cases h)
def G21 : Env := Env.add 21 H21 G19
theorem G21_ok : EnvOk Try.prog G21 := envAdd_ok H21_ok G19_ok

/-! plain.Sum -/
def F15 : FCfg := ⟨keepAt [(0, [0, 1, 2, 3]), (1, [0, 1, 2, 3, 26]), (2, [8, 9]), (3, [0, 3, 10, 11]), (4, [0, 3, 10, 11, 12, 13]), (5, [0, 3, 10, 11, 12, 13, 14, 15]), (6, [3, 10, 11, 12, 13, 14, 15, 35, 36, 37]), (7, [3, 10, 11, 12, 13, 14, 15, 35, 36, 37, 38]), (8, [3, 10, 11, 12, 13, 14, 15, 17, 35, 36, 37]), (9, [3, 10, 11, 12, 13, 14, 15, 17, 35, 36, 37, 44]), (10, [3, 10, 11, 12, 13, 14, 15, 17, 18, 35, 36, 37]), (11, [3, 10, 11, 12, 13, 14, 15, 17, 18, 35, 36, 37]), (12, [3, 10, 11, 12, 13, 14, 15, 17, 35, 36, 37, 79]), (13, [3, 10, 11, 12, 13, 14, 15, 35, 36, 37]), (14, [3, 10, 11, 12, 13, 14, 15, 35, 36, 37]), (15, [3, 10, 11, 12, 13, 14, 15, 35, 36, 37]), (16, [8, 9])], loopAt [(7, [3, 10, 11, 12, 13, 14, 15, 35, 36, 37], [])], []⟩
noncomputable def C_psum (fu : Nat) (l : RL) (lo len : Nat) (ro : Bool) (w g t : Int) : Cfg := Cfg.of tis F15 fu (List.length ([.rows (.pair (.int .i64) (.int .i64)) l ro] : List Blk)) Try.f15.ntmps
noncomputable def S.psum_b0 : Code := codeAt (bodyOf Try.f15) [1, 1, 1, 1, 1, 0, 1, 0, 0]
noncomputable def S.psum_s0 (l : RL) (lo len : Nat) (ro : Bool) (w g t : Int) (y0 : Int) (y1 : Int) (y2 : Int) (y3 : Int) (y4 : Int) (y5 : Int) : St := ⟨[(3, (.int .i64 (t))), (10, (.int .i64 (y0))), (11, (.int .i64 (g))), (12, (.int .i64 (y1))), (13, (.int .i64 (y2))), (14, (.int .i64 (y3))), (15, (.int .i64 (y4))), (35, (.slice 2 0 (lo) (len) none)), (36, (.int .i64 (((len : Nat) : Int)))), (37, (.int .i64 (y5)))], [(.rows (Cd.pair (Cd.int .i64) (Cd.int .i64)) (l) ro)]⟩
noncomputable def S.psum_x0_0 (l : RL) (lo len : Nat) (ro : Bool) (w g t : Int) (z0 : Int) (z1 : Int) (z2 : Int) (z3 : Int) (z4 : Int) (z5 : Int) (z6 : Bool) : St := ⟨[(3, (.int .i64 (t))), (10, (.int .i64 (z0))), (11, (.int .i64 (g))), (12, (.int .i64 (z1))), (13, (.int .i64 (z2))), (14, (.int .i64 (z3))), (15, (.int .i64 (z4))), (35, (.slice 2 0 (lo) (len) none)), (36, (.int .i64 (((len : Nat) : Int)))), (37, (.int .i64 (z5))), (38, (.bool (z6)))], [(.rows (Cd.pair (Cd.int .i64) (Cd.int .i64)) (l) ro)]⟩
noncomputable def S.psum_g0 {R : Type} (l : RL) (lo len : Nat) (ro : Bool) (w g t : Int) (K : Ex → St → Option R) : ((Int × Int × Int × Int × Int × Int × Bool)) → Option R := (fun z : Int × Int × Int × Int × Int × Int × Bool => K (Ex.exit 0) (S.psum_x0_0 l lo len ro w g t (z.1) (z.2.1) (z.2.2.1) (z.2.2.2.1) (z.2.2.2.2.1) (z.2.2.2.2.2.1) (z.2.2.2.2.2.2)))
noncomputable def S.psum_gk {R : Type} (l : RL) (lo len : Nat) (ro : Bool) (w g t : Int) (k : AVal → List Blk → Option R) : (Int × Int) → Option R := (fun v : Int × Int => k (.tuple [(.int .i64 v.1), (.int .i64 v.2)]) [.rows (.pair (.int .i64) (.int .i64)) l ro])
theorem S.psum_l0_k {R : Type} (fu : Nat) (l : RL) (lo len : Nat) (ro : Bool) (w g t : Int) (n : Nat) (K : Ex → St → Option R) (y0 : Int) (y1 : Int) (y2 : Int) (y3 : Int) (y4 : Int) (y5 : Int) : loopRun (C_psum fu l lo len ro w g t) G21 S.psum_b0 (n + 1) (S.psum_s0 l lo len ro w g t (y0) (y1) (y2) (y3) (y4) (y5)) K =
  (bif decide (y5 < ((len : Nat) : Int)) then
    bif inB y5 len then
      (optK (l[Int.toNat y5 + lo]?) fun o4 =>
        bif !S.ptakes o4.1 o4.2 then
          loopRun (C_psum fu l lo len ro w g t) G21 S.psum_b0 n (S.psum_s0 l lo len ro w g t (y0) (y1) (y2) (y3) (y4) (Go.IntKind.wrap .i64 (y5 + 1))) K
        else
          bif decide (g = 0) then
            none
          else
            bif decide (y0 ≤ Go.IntKind.wrap .i64 ((if Go.IntKind.wrap .i64 (Int.tdiv o4.1 g) > y2 then Go.IntKind.wrap .i64 (Int.tdiv o4.1 g) else y2) - Go.IntKind.wrap .i64 (Int.tdiv o4.1 g))) then
              loopRun (C_psum fu l lo len ro w g t) G21 S.psum_b0 n (S.psum_s0 l lo len ro w g t (y0) (y1) (if Go.IntKind.wrap .i64 (Int.tdiv o4.1 g) > y2 then Go.IntKind.wrap .i64 (Int.tdiv o4.1 g) else y2) (y3) (y4) (Go.IntKind.wrap .i64 (y5 + 1))) K
            else
              bif decide (y0 ≤ Go.IntKind.wrap .i64 (y1 - Go.IntKind.wrap .i64 (Int.tdiv o4.1 g))) then
                loopRun (C_psum fu l lo len ro w g t) G21 S.psum_b0 n (S.psum_s0 l lo len ro w g t (y0) (y1) (if Go.IntKind.wrap .i64 (Int.tdiv o4.1 g) > y2 then Go.IntKind.wrap .i64 (Int.tdiv o4.1 g) else y2) (y3) (y4) (Go.IntKind.wrap .i64 (y5 + 1))) K
              else
                bif decide (g = 0) then
                  none
                else
                  bif decide (Go.IntKind.wrap .i64 (Int.tdiv t g) < Go.IntKind.wrap .i64 (Int.tdiv o4.1 g)) then
                    loopRun (C_psum fu l lo len ro w g t) G21 S.psum_b0 n (S.psum_s0 l lo len ro w g t (y0) (y1) (if Go.IntKind.wrap .i64 (Int.tdiv o4.1 g) > y2 then Go.IntKind.wrap .i64 (Int.tdiv o4.1 g) else y2) (y3) (y4) (Go.IntKind.wrap .i64 (y5 + 1))) K
                  else
                    bif decide (g = 0) then
                      none
                    else
                      bif decide (y0 ≤ Go.IntKind.wrap .i64 (Go.IntKind.wrap .i64 (Int.tdiv t g) - Go.IntKind.wrap .i64 (Int.tdiv o4.1 g))) then
                        loopRun (C_psum fu l lo len ro w g t) G21 S.psum_b0 n (S.psum_s0 l lo len ro w g t (y0) (y1) (if Go.IntKind.wrap .i64 (Int.tdiv o4.1 g) > y2 then Go.IntKind.wrap .i64 (Int.tdiv o4.1 g) else y2) (y3) (y4) (Go.IntKind.wrap .i64 (y5 + 1))) K
                      else
                        loopRun (C_psum fu l lo len ro w g t) G21 S.psum_b0 n (S.psum_s0 l lo len ro w g t (y0) (y1) (if Go.IntKind.wrap .i64 (Int.tdiv o4.1 g) > y2 then Go.IntKind.wrap .i64 (Int.tdiv o4.1 g) else y2) (Prod.fst (S.madd y3 o4.2)) (Go.IntKind.wrap .i64 (y4 + 1)) (Go.IntKind.wrap .i64 (y5 + 1))) K)
    else
      none
  else
    K (Ex.exit 0) (S.psum_x0_0 l lo len ro w g t (y0) (y1) (y2) (y3) (y4) (y5) (decide (y5 < ((len : Nat) : Int))))) := by kernel_rfl
def S.psum_l0 (fu : Nat) (l : RL) (lo len : Nat) (ro : Bool) (w g t : Int) : Nat → (Int) → (Int) → (Int) → (Int) → (Int) → (Int) → Option ((Int × Int × Int × Int × Int × Int × Bool))
  | 0, _, _, _, _, _, _ => none
  | n + 1, y0, y1, y2, y3, y4, y5 =>
    bif decide (y5 < ((len : Nat) : Int)) then
      bif inB y5 len then
        (optK (l[Int.toNat y5 + lo]?) fun o4 =>
          bif !S.ptakes o4.1 o4.2 then
            (S.psum_l0 fu l lo len ro w g t n) (y0) (y1) (y2) (y3) (y4) (Go.IntKind.wrap .i64 (y5 + 1))
          else
            bif decide (g = 0) then
              none
            else
              bif decide (y0 ≤ Go.IntKind.wrap .i64 ((if Go.IntKind.wrap .i64 (Int.tdiv o4.1 g) > y2 then Go.IntKind.wrap .i64 (Int.tdiv o4.1 g) else y2) - Go.IntKind.wrap .i64 (Int.tdiv o4.1 g))) then
                (S.psum_l0 fu l lo len ro w g t n) (y0) (y1) (if Go.IntKind.wrap .i64 (Int.tdiv o4.1 g) > y2 then Go.IntKind.wrap .i64 (Int.tdiv o4.1 g) else y2) (y3) (y4) (Go.IntKind.wrap .i64 (y5 + 1))
              else
                bif decide (y0 ≤ Go.IntKind.wrap .i64 (y1 - Go.IntKind.wrap .i64 (Int.tdiv o4.1 g))) then
                  (S.psum_l0 fu l lo len ro w g t n) (y0) (y1) (if Go.IntKind.wrap .i64 (Int.tdiv o4.1 g) > y2 then Go.IntKind.wrap .i64 (Int.tdiv o4.1 g) else y2) (y3) (y4) (Go.IntKind.wrap .i64 (y5 + 1))
                else
                  bif decide (g = 0) then
                    none
                  else
                    bif decide (Go.IntKind.wrap .i64 (Int.tdiv t g) < Go.IntKind.wrap .i64 (Int.tdiv o4.1 g)) then
                      (S.psum_l0 fu l lo len ro w g t n) (y0) (y1) (if Go.IntKind.wrap .i64 (Int.tdiv o4.1 g) > y2 then Go.IntKind.wrap .i64 (Int.tdiv o4.1 g) else y2) (y3) (y4) (Go.IntKind.wrap .i64 (y5 + 1))
                    else
                      bif decide (g = 0) then
                        none
                      else
                        bif decide (y0 ≤ Go.IntKind.wrap .i64 (Go.IntKind.wrap .i64 (Int.tdiv t g) - Go.IntKind.wrap .i64 (Int.tdiv o4.1 g))) then
                          (S.psum_l0 fu l lo len ro w g t n) (y0) (y1) (if Go.IntKind.wrap .i64 (Int.tdiv o4.1 g) > y2 then Go.IntKind.wrap .i64 (Int.tdiv o4.1 g) else y2) (y3) (y4) (Go.IntKind.wrap .i64 (y5 + 1))
                        else
                          (S.psum_l0 fu l lo len ro w g t n) (y0) (y1) (if Go.IntKind.wrap .i64 (Int.tdiv o4.1 g) > y2 then Go.IntKind.wrap .i64 (Int.tdiv o4.1 g) else y2) (Prod.fst (S.madd y3 o4.2)) (Go.IntKind.wrap .i64 (y4 + 1)) (Go.IntKind.wrap .i64 (y5 + 1)))
      else
        none
    else
      some (y0, y1, y2, y3, y4, y5, decide (y5 < ((len : Nat) : Int)))
theorem S.psum_l0_v {R : Type} (fu : Nat) (l : RL) (lo len : Nat) (ro : Bool) (w g t : Int) (K : Ex → St → Option R) : ∀ (n : Nat) (y0 : Int) (y1 : Int) (y2 : Int) (y3 : Int) (y4 : Int) (y5 : Int), loopRun (C_psum fu l lo len ro w g t) G21 S.psum_b0 n (S.psum_s0 l lo len ro w g t (y0) (y1) (y2) (y3) (y4) (y5)) K = oK (β := (Int × Int × Int × Int × Int × Int × Bool)) (S.psum_g0 l lo len ro w g t K) (S.psum_l0 fu l lo len ro w g t n y0 y1 y2 y3 y4 y5)
  | 0, _, _, _, _, _, _ => rfl
  | n + 1, y0, y1, y2, y3, y4, y5 => (S.psum_l0_k fu l lo len ro w g t n K y0 y1 y2 y3 y4 y5).trans (bif_lift (f := (oK (β := (Int × Int × Int × Int × Int × Int × Bool)) (S.psum_g0 l lo len ro w g t K))) (bif_lift (f := (oK (β := (Int × Int × Int × Int × Int × Int × Bool)) (S.psum_g0 l lo len ro w g t K))) (opt_lift fun o4 => (bif_lift (f := (oK (β := (Int × Int × Int × Int × Int × Int × Bool)) (S.psum_g0 l lo len ro w g t K))) (S.psum_l0_v fu l lo len ro w g t K n (y0) (y1) (y2) (y3) (y4) (Go.IntKind.wrap .i64 (y5 + 1))) (bif_lift (f := (oK (β := (Int × Int × Int × Int × Int × Int × Bool)) (S.psum_g0 l lo len ro w g t K))) rfl (bif_lift (f := (oK (β := (Int × Int × Int × Int × Int × Int × Bool)) (S.psum_g0 l lo len ro w g t K))) (S.psum_l0_v fu l lo len ro w g t K n (y0) (y1) (if Go.IntKind.wrap .i64 (Int.tdiv o4.1 g) > y2 then Go.IntKind.wrap .i64 (Int.tdiv o4.1 g) else y2) (y3) (y4) (Go.IntKind.wrap .i64 (y5 + 1))) (bif_lift (f := (oK (β := (Int × Int × Int × Int × Int × Int × Bool)) (S.psum_g0 l lo len ro w g t K))) (S.psum_l0_v fu l lo len ro w g t K n (y0) (y1) (if Go.IntKind.wrap .i64 (Int.tdiv o4.1 g) > y2 then Go.IntKind.wrap .i64 (Int.tdiv o4.1 g) else y2) (y3) (y4) (Go.IntKind.wrap .i64 (y5 + 1))) (bif_lift (f := (oK (β := (Int × Int × Int × Int × Int × Int × Bool)) (S.psum_g0 l lo len ro w g t K))) rfl (bif_lift (f := (oK (β := (Int × Int × Int × Int × Int × Int × Bool)) (S.psum_g0 l lo len ro w g t K))) (S.psum_l0_v fu l lo len ro w g t K n (y0) (y1) (if Go.IntKind.wrap .i64 (Int.tdiv o4.1 g) > y2 then Go.IntKind.wrap .i64 (Int.tdiv o4.1 g) else y2) (y3) (y4) (Go.IntKind.wrap .i64 (y5 + 1))) (bif_lift (f := (oK (β := (Int × Int × Int × Int × Int × Int × Bool)) (S.psum_g0 l lo len ro w g t K))) rfl (bif_lift (f := (oK (β := (Int × Int × Int × Int × Int × Int × Bool)) (S.psum_g0 l lo len ro w g t K))) (S.psum_l0_v fu l lo len ro w g t K n (y0) (y1) (if Go.IntKind.wrap .i64 (Int.tdiv o4.1 g) > y2 then Go.IntKind.wrap .i64 (Int.tdiv o4.1 g) else y2) (y3) (y4) (Go.IntKind.wrap .i64 (y5 + 1))) (S.psum_l0_v fu l lo len ro w g t K n (y0) (y1) (if Go.IntKind.wrap .i64 (Int.tdiv o4.1 g) > y2 then Go.IntKind.wrap .i64 (Int.tdiv o4.1 g) else y2) (Prod.fst (S.madd y3 o4.2)) (Go.IntKind.wrap .i64 (y4 + 1)) (Go.IntKind.wrap .i64 (y5 + 1)))))))))))) rfl) rfl)
theorem S.psum_a0_0_k {R : Type} (fu : Nat) (l : RL) (lo len : Nat) (ro : Bool) (w g t : Int) (z0 : Int) (z1 : Int) (z2 : Int) (z3 : Int) (z4 : Int) (z5 : Int) (z6 : Bool) (k : AVal → List Blk → Option R) : contOf (C_psum fu l lo len ro w g t) G21 (bodyOf Try.f15) [1, 1, 1, 1, 1, 0, 1, 0] (retK tis F15 Try.f15 (List.length ([.rows (.pair (.int .i64) (.int .i64)) l ro] : List Blk)) k) (Ex.exit 0) (S.psum_x0_0 l lo len ro w g t (z0) (z1) (z2) (z3) (z4) (z5) (z6)) =
  (k (.tuple [.int .i64 z3, .int .i64 z4]) ([.rows (Cd.pair (Cd.int .i64) (Cd.int .i64)) l ro])) := by kernel_rfl
def S.psum_a0_0 (fu : Nat) (l : RL) (lo len : Nat) (ro : Bool) (w g t : Int) (z0 : Int) (z1 : Int) (z2 : Int) (z3 : Int) (z4 : Int) (z5 : Int) (z6 : Bool) : Option (Int × Int) :=
  some (z3, z4)
theorem S.psum_a0_0_v {R : Type} (fu : Nat) (l : RL) (lo len : Nat) (ro : Bool) (w g t : Int) (z0 : Int) (z1 : Int) (z2 : Int) (z3 : Int) (z4 : Int) (z5 : Int) (z6 : Bool) (k : AVal → List Blk → Option R) : contOf (C_psum fu l lo len ro w g t) G21 (bodyOf Try.f15) [1, 1, 1, 1, 1, 0, 1, 0] (retK tis F15 Try.f15 (List.length ([.rows (.pair (.int .i64) (.int .i64)) l ro] : List Blk)) k) (Ex.exit 0) (S.psum_x0_0 l lo len ro w g t (z0) (z1) (z2) (z3) (z4) (z5) (z6)) = oK (S.psum_gk l lo len ro w g t k) (S.psum_a0_0 fu l lo len ro w g t z0 z1 z2 z3 z4 z5 z6) :=
  (S.psum_a0_0_k fu l lo len ro w g t z0 z1 z2 z3 z4 z5 z6 k).trans rfl
theorem S.psum_k {R : Type} (fu : Nat) (l : RL) (lo len : Nat) (ro : Bool) (w g t : Int) (k : AVal → List Blk → Option R) : fnEval tis F15 fu G21 Try.f15 [.slice 2 0 lo len none, .int .i64 w, .int .i64 g, .int .i64 t] [.rows (.pair (.int .i64) (.int .i64)) l ro] k =
  ((optK (S.pring w g) fun o2 =>
    (Sum.elim (fun o3 : Unit =>
    k (.tuple [.int .i64 0, .int .i64 0]) ([.rows (Cd.pair (Cd.int .i64) (Cd.int .i64)) l ro])) (fun o3 : Int × Int × Int =>
    bif decide (t < 0) then
        k (.tuple [.int .i64 0, .int .i64 0]) ([.rows (Cd.pair (Cd.int .i64) (Cd.int .i64)) l ro])
      else
        (optK (S.pbuckets w g) fun o5 =>
          (optK (S.pnewest 100000 l lo len ro) fun o6 =>
            bif decide (g = 0) then
              none
            else
              loopRun (C_psum fu l lo len ro w g t) G21 S.psum_b0 fu (S.psum_s0 l lo len ro w g t (o5) (Go.IntKind.wrap .i64 (Int.tdiv o6 g)) (-1) (0) (0) (0)) (contOf (C_psum fu l lo len ro w g t) G21 (bodyOf Try.f15) [1, 1, 1, 1, 1, 0, 1, 0] (retK tis F15 Try.f15 (List.length ([.rows (.pair (.int .i64) (.int .i64)) l ro] : List Blk)) k))))) (o2)))) := by kernel_rfl
def S.psum (fu : Nat) (l : RL) (lo len : Nat) (ro : Bool) (w g t : Int) : Option (Int × Int) :=
  (optK (S.pring w g) fun o2 =>
    (Sum.elim (fun o3 : Unit =>
    some (0, 0)) (fun o3 : Int × Int × Int =>
    bif decide (t < 0) then
        some (0, 0)
      else
        (optK (S.pbuckets w g) fun o5 =>
          (optK (S.pnewest 100000 l lo len ro) fun o6 =>
            bif decide (g = 0) then
              none
            else
              optK (S.psum_l0 fu l lo len ro w g t fu (o5) (Go.IntKind.wrap .i64 (Int.tdiv o6 g)) (-1) (0) (0) (0)) (fun z : Int × Int × Int × Int × Int × Int × Bool => S.psum_a0_0 fu l lo len ro w g t (z.1) (z.2.1) (z.2.2.1) (z.2.2.2.1) (z.2.2.2.2.1) (z.2.2.2.2.2.1) (z.2.2.2.2.2.2))))) (o2)))
theorem S.psum_v {R : Type} (fu : Nat) (l : RL) (lo len : Nat) (ro : Bool) (w g t : Int) (k : AVal → List Blk → Option R) : fnEval tis F15 fu G21 Try.f15 [.slice 2 0 lo len none, .int .i64 w, .int .i64 g, .int .i64 t] [.rows (.pair (.int .i64) (.int .i64)) l ro] k = oK (fun v : Int × Int => k (.tuple [(.int .i64 v.1), (.int .i64 v.2)]) [.rows (.pair (.int .i64) (.int .i64)) l ro]) (S.psum fu l lo len ro w g t) :=
  (S.psum_k fu l lo len ro w g t k).trans (by
      unfold S.psum
      refine opt_lift fun o2 => ?_
      refine sumF_lift (f := (oK (S.psum_gk l lo len ro w g t k))) (fun o3 => ?_) (fun o3 => ?_) _
      · 
        exact rfl
      · 
        refine bif_lift (f := (oK (S.psum_gk l lo len ro w g t k))) ?_ ?_
        · 
          exact rfl
        · 
          refine opt_lift fun o5 => ?_
          refine opt_lift fun o6 => ?_
          refine bif_lift (f := (oK (S.psum_gk l lo len ro w g t k))) ?_ ?_
          · 
            exact rfl
          · 
            exact (arr_lift (S.psum_l0_v fu l lo len ro w g t (contOf (C_psum fu l lo len ro w g t) G21 (bodyOf Try.f15) [1, 1, 1, 1, 1, 0, 1, 0] (retK tis F15 Try.f15 (List.length ([.rows (.pair (.int .i64) (.int .i64)) l ro] : List Blk)) k)) fu (o5) (Go.IntKind.wrap .i64 (Int.tdiv o6 g)) (-1) (0) (0) (0)) ((fun z => S.psum_a0_0_v fu l lo len ro w g t (z.1) (z.2.1) (z.2.2.1) (z.2.2.2.1) (z.2.2.2.2.1) (z.2.2.2.2.2.1) (z.2.2.2.2.2.2) k)))
      )
noncomputable def C_psum1 (fu : Nat) (w g t : Int) : Cfg := Cfg.of tis F15 fu (List.length ([] : List Blk)) Try.f15.ntmps
noncomputable def S.psum1_b0 : Code := codeAt (bodyOf Try.f15) [1, 1, 1, 1, 1, 0, 1, 0, 0]
noncomputable def S.psum1_s0 (w g t : Int) (y0 : Int) : St := ⟨[(3, (.int .i64 (t))), (10, (.int .i64 (y0))), (11, (.int .i64 (g))), (12, (.int .i64 (Go.IntKind.wrap .i64 (Int.tdiv (-1) g)))), (13, (.int .i64 (-1))), (14, (.int .i64 (0))), (15, (.int .i64 (0))), (35, .nils), (36, (.int .i64 (0))), (37, (.int .i64 (0)))], []⟩
noncomputable def S.psum1_x0_0 (w g t : Int) (z0 : Int) : St := ⟨[(3, (.int .i64 (t))), (10, (.int .i64 (z0))), (11, (.int .i64 (g))), (12, (.int .i64 (Go.IntKind.wrap .i64 (Int.tdiv (-1) g)))), (13, (.int .i64 (-1))), (14, (.int .i64 (0))), (15, (.int .i64 (0))), (35, .nils), (36, (.int .i64 (0))), (37, (.int .i64 (0))), (38, (.bool (false)))], []⟩
noncomputable def S.psum1_g0 {R : Type} (w g t : Int) (K : Ex → St → Option R) : ((Int)) → Option R := (fun z : Int => K (Ex.exit 0) (S.psum1_x0_0 w g t (z)))
noncomputable def S.psum1_gk {R : Type} (w g t : Int) (k : AVal → List Blk → Option R) : (Int × Int) → Option R := (fun v : Int × Int => k (.tuple [(.int .i64 v.1), (.int .i64 v.2)]) [])
theorem S.psum1_l0_k {R : Type} (fu : Nat) (w g t : Int) (n : Nat) (K : Ex → St → Option R) (y0 : Int) : loopRun (C_psum1 fu w g t) G21 S.psum1_b0 (n + 1) (S.psum1_s0 w g t (y0)) K =
  (K (Ex.exit 0) (S.psum1_x0_0 w g t (y0))) := by kernel_rfl
def S.psum1_l0 (fu : Nat) (w g t : Int) : Nat → (Int) → Option ((Int))
  | 0, _ => none
  | n + 1, y0 =>
    some (y0)
theorem S.psum1_l0_v {R : Type} (fu : Nat) (w g t : Int) (K : Ex → St → Option R) : ∀ (n : Nat) (y0 : Int), loopRun (C_psum1 fu w g t) G21 S.psum1_b0 n (S.psum1_s0 w g t (y0)) K = oK (β := (Int)) (S.psum1_g0 w g t K) (S.psum1_l0 fu w g t n y0)
  | 0, _ => rfl
  | n + 1, y0 => (S.psum1_l0_k fu w g t n K y0).trans rfl
theorem S.psum1_a0_0_k {R : Type} (fu : Nat) (w g t : Int) (z0 : Int) (k : AVal → List Blk → Option R) : contOf (C_psum1 fu w g t) G21 (bodyOf Try.f15) [1, 1, 1, 1, 1, 0, 1, 0] (retK tis F15 Try.f15 (List.length ([] : List Blk)) k) (Ex.exit 0) (S.psum1_x0_0 w g t (z0)) =
  (k (.tuple [.int .i64 0, .int .i64 0]) ([])) := by kernel_rfl
def S.psum1_a0_0 (fu : Nat) (w g t : Int) (z0 : Int) : Option (Int × Int) :=
  some (0, 0)
theorem S.psum1_a0_0_v {R : Type} (fu : Nat) (w g t : Int) (z0 : Int) (k : AVal → List Blk → Option R) : contOf (C_psum1 fu w g t) G21 (bodyOf Try.f15) [1, 1, 1, 1, 1, 0, 1, 0] (retK tis F15 Try.f15 (List.length ([] : List Blk)) k) (Ex.exit 0) (S.psum1_x0_0 w g t (z0)) = oK (S.psum1_gk w g t k) (S.psum1_a0_0 fu w g t z0) :=
  (S.psum1_a0_0_k fu w g t z0 k).trans rfl
theorem S.psum1_k {R : Type} (fu : Nat) (w g t : Int) (k : AVal → List Blk → Option R) : fnEval tis F15 fu G21 Try.f15 [.nils, .int .i64 w, .int .i64 g, .int .i64 t] [] k =
  ((optK (S.pring w g) fun o2 =>
    (Sum.elim (fun o3 : Unit =>
    k (.tuple [.int .i64 0, .int .i64 0]) ([])) (fun o3 : Int × Int × Int =>
    bif decide (t < 0) then
        k (.tuple [.int .i64 0, .int .i64 0]) ([])
      else
        (optK (S.pbuckets w g) fun o5 =>
          bif decide (g = 0) then
            none
          else
            loopRun (C_psum1 fu w g t) G21 S.psum1_b0 fu (S.psum1_s0 w g t (o5)) (contOf (C_psum1 fu w g t) G21 (bodyOf Try.f15) [1, 1, 1, 1, 1, 0, 1, 0] (retK tis F15 Try.f15 (List.length ([] : List Blk)) k)))) (o2)))) := by kernel_rfl
def S.psum1 (fu : Nat) (w g t : Int) : Option (Int × Int) :=
  (optK (S.pring w g) fun o2 =>
    (Sum.elim (fun o3 : Unit =>
    some (0, 0)) (fun o3 : Int × Int × Int =>
    bif decide (t < 0) then
        some (0, 0)
      else
        (optK (S.pbuckets w g) fun o5 =>
          bif decide (g = 0) then
            none
          else
            optK (S.psum1_l0 fu w g t fu (o5)) (fun z : Int => S.psum1_a0_0 fu w g t (z)))) (o2)))
theorem S.psum1_v {R : Type} (fu : Nat) (w g t : Int) (k : AVal → List Blk → Option R) : fnEval tis F15 fu G21 Try.f15 [.nils, .int .i64 w, .int .i64 g, .int .i64 t] [] k = oK (fun v : Int × Int => k (.tuple [(.int .i64 v.1), (.int .i64 v.2)]) []) (S.psum1 fu w g t) :=
  (S.psum1_k fu w g t k).trans (by
      unfold S.psum1
      refine opt_lift fun o2 => ?_
      refine sumF_lift (f := (oK (S.psum1_gk w g t k))) (fun o3 => ?_) (fun o3 => ?_) _
      · 
        exact rfl
      · 
        refine bif_lift (f := (oK (S.psum1_gk w g t k))) ?_ ?_
        · 
          exact rfl
        · 
          refine opt_lift fun o5 => ?_
          refine bif_lift (f := (oK (S.psum1_gk w g t k))) ?_ ?_
          · 
            exact rfl
          · 
            exact (arr_lift (S.psum1_l0_v fu w g t (contOf (C_psum1 fu w g t) G21 (bodyOf Try.f15) [1, 1, 1, 1, 1, 0, 1, 0] (retK tis F15 Try.f15 (List.length ([] : List Blk)) k)) fu (o5)) ((fun z => S.psum1_a0_0_v fu w g t (z) k)))
      )
def H15 : Hnd := fun R args σ k => match args, σ with
  | [.slice 2 0 lo len none, .int .i64 w, .int .i64 g, .int .i64 t], [.rows (.pair (.int .i64) (.int .i64)) l ro] => oK (fun v : Int × Int => k (.tuple [(.int .i64 v.1), (.int .i64 v.2)]) []) (S.psum 100000 l lo len ro w g t)
  | [.nils, .int .i64 w, .int .i64 g, .int .i64 t], [] => oK (fun v : Int × Int => k (.tuple [(.int .i64 v.1), (.int .i64 v.2)]) []) (S.psum1 100000 w g t)
  | _, _ => none
theorem H15_ok : HndOk Try.prog 15 H15 := hnd_ok_pure tis tisOk mixOk G21_ok F15 Try.func15 rfl (by
  intro R args σ k r h
  unfold H15 at h
  split at h
  · rename_i lo len w g t l ro; exact ⟨100000, (S.psum_v 100000 l lo len ro w g t _).trans ((congrArg (fun g9 => oK g9 (S.psum 100000 l lo len ro w g t)) (funext fun v => if_pos rfl)).trans h)⟩
  · rename_i w g t; exact ⟨100000, (S.psum1_v 100000 w g t _).trans ((congrArg (fun g9 => oK g9 (S.psum1 100000 w g t)) (funext fun v => if_pos rfl)).trans h)⟩
  · cases h)
def G15 : Env := Env.add 15 H15 G21
theorem G15_ok : EnvOk Try.prog G15 := envAdd_ok H15_ok G21_ok

/-! plain.Mean -/
def F18 : FCfg := ⟨keepAt [(0, [0, 1, 2, 3]), (1, [9, 10]), (2, [9, 10, 20]), (3, [8]), (4, [8])], loopAt [], []⟩
theorem S.pmean_k {R : Type} (l : RL) (lo len : Nat) (ro : Bool) (w g t : Int) (k : AVal → List Blk → Option R) : fnEval tis F18 0 G15 Try.f18 [.slice 2 0 lo len none, .int .i64 w, .int .i64 g, .int .i64 t] [.rows (.pair (.int .i64) (.int .i64)) l ro] k =
  ((optK (S.psum 100000 l lo len ro w g t) fun o2 =>
    bif decide (o2.2 = 0) then
      k (.int .i64 0) ([.rows (Cd.pair (Cd.int .i64) (Cd.int .i64)) l ro])
    else
      bif decide (o2.2 = 0) then
        none
      else
        k (.int .i64 (Go.IntKind.wrap .i64 (Int.tdiv o2.1 o2.2))) ([.rows (Cd.pair (Cd.int .i64) (Cd.int .i64)) l ro]))) := by kernel_rfl
def S.pmean (l : RL) (lo len : Nat) (ro : Bool) (w g t : Int) : Option (Int) :=
  (optK (S.psum 100000 l lo len ro w g t) fun o2 =>
    bif decide (o2.2 = 0) then
      some (0)
    else
      bif decide (o2.2 = 0) then
        none
      else
        some (Go.IntKind.wrap .i64 (Int.tdiv o2.1 o2.2)))
theorem S.pmean_v {R : Type} (l : RL) (lo len : Nat) (ro : Bool) (w g t : Int) (k : AVal → List Blk → Option R) : fnEval tis F18 0 G15 Try.f18 [.slice 2 0 lo len none, .int .i64 w, .int .i64 g, .int .i64 t] [.rows (.pair (.int .i64) (.int .i64)) l ro] k = oK (fun v : Int => k (.int .i64 v) [.rows (.pair (.int .i64) (.int .i64)) l ro]) (S.pmean l lo len ro w g t) :=
  (S.pmean_k l lo len ro w g t k).trans (opt_lift fun o2 => (bif_lift (f := (oK (fun v : Int => k (.int .i64 v) [.rows (.pair (.int .i64) (.int .i64)) l ro]))) rfl (bif_lift (f := (oK (fun v : Int => k (.int .i64 v) [.rows (.pair (.int .i64) (.int .i64)) l ro]))) rfl rfl)))
def H18 : Hnd := fun R args σ k => match args, σ with
  | [.slice 2 0 lo len none, .int .i64 w, .int .i64 g, .int .i64 t], [.rows (.pair (.int .i64) (.int .i64)) l ro] => oK (fun v : Int => k (.int .i64 v) []) (S.pmean l lo len ro w g t)
  | _, _ => none
theorem H18_ok : HndOk Try.prog 18 H18 := hnd_ok_pure tis tisOk mixOk G15_ok F18 Try.func18 rfl (by
  intro R args σ k r h
  unfold H18 at h
  split at h
  · rename_i lo len w g t l ro; exact ⟨0, (S.pmean_v l lo len ro w g t _).trans ((congrArg (fun g9 => oK g9 (S.pmean l lo len ro w g t)) (funext fun v => if_pos rfl)).trans h)⟩
  · cases h)
def G18 : Env := Env.add 18 H18 G15
theorem G18_ok : EnvOk Try.prog G18 := envAdd_ok H18_ok G15_ok

/-! spinnakerlaw6.told -/
def F16 : FCfg := ⟨keepAt [(0, []), (1, [1]), (2, [1, 2, 3]), (3, [1, 2, 3, 4, 5]), (4, [1, 2, 3, 4, 5, 6, 7]), (5, [0])], loopAt [], []⟩
theorem S.told6_k {R : Type}  (k : AVal → List Blk → Option R) : fnEval tis F16 0 G18 Try.f16 [] [] k =
  (k (.bool true) ([])) := by kernel_rfl
def S.told6  : Bool :=
  (true)
theorem S.told6_v {R : Type}  (k : AVal → List Blk → Option R) : fnEval tis F16 0 G18 Try.f16 [] [] k = k (.bool (S.told6)) [] :=
  (S.told6_k k).trans rfl
def H16 : Hnd := fun R args σ k => match args, σ with
  | [], [] => k (.bool (S.told6)) []
  | _, _ => none
theorem H16_ok : HndOk Try.prog 16 H16 := hnd_ok tis tisOk mixOk G18_ok F16 Try.func16 rfl (by
  intro R args σ k r h
  unfold H16 at h
  split at h
  · exact ⟨0, (S.told6_v _).trans h⟩
  · cases h)
def G16 : Env := Env.add 16 H16 G18
theorem G16_ok : EnvOk Try.prog G16 := envAdd_ok H16_ok G18_ok
end Go.Proofs.Ytfoaihjkmfhaoaa.AB
