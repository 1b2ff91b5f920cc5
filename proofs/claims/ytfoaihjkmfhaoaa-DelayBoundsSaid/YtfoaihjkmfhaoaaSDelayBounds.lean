/- DelayBounds, as a plain function. -/
import Derived.Test.YtfoaihjkmfhaoaaSdelay
namespace Go.Proofs.Ytfoaihjkmfhaoaa.AB
set_option linter.unusedVariables false

/-! spinnakerlaw15.DelayBounds -/
def F10 : FCfg := ⟨keepAt [(0, [0, 1, 2]), (1, [2, 7, 8]), (2, [7, 8, 9]), (3, [7, 8, 9, 26]), (4, [6]), (5, [7, 8, 9, 10]), (6, [7, 8, 9, 10, 11]), (7, [7, 8, 9, 10, 11, 37]), (8, [7, 8, 9, 10, 11]), (9, [7, 8, 9, 10, 11, 44]), (10, [6]), (11, [7, 8, 9, 64]), (12, [6]), (13, [6])], loopAt [(7, [7, 8, 9, 10, 11], [])], []⟩
theorem S.DelayBounds_k {R : Type} (a b x : Int) (k : AVal → List Blk → Option R) : fnEval tis F10 40 G31 Try.f10 [.int .i64 a, .int .i64 b, .int .i64 x] [] k =
  ((Sum.elim (fun o2 : Unit =>
    k (.bool false) ([])) (fun o2 : Int =>
    (Sum.elim (fun o3 : Int × Int =>
    k (.bool false) ([])) (fun o3 : Int × Int × List (Option (Int × Int)) =>
    (optK (S.dput (Prod.snd (Prod.snd o3)) 0 1 (Prod.fst o3) (Prod.fst (Prod.snd o3)) 5 (Go.IntKind.wrap .i64 (Int.tmod (Go.IntKind.wrap .u64 b) 1000001))) fun o4 =>
        (Sum.elim (fun o5 : Nat × Nat × Int × Int × List (Option (Int × Int)) =>
    k (.bool false) ([])) (fun o5 : Nat × Int × Int × List (Option (Int × Int)) =>
    (optK (S.dput (Prod.snd (Prod.snd (Prod.snd o5))) 0 (Prod.fst o5) (Prod.fst (Prod.snd o5)) (Prod.fst (Prod.snd (Prod.snd o5))) 4 9) fun o6 =>
            (Sum.elim (fun o7 : Nat × Nat × Int × Int × List (Option (Int × Int)) =>
    (optK (S.dmost 100000 (Prod.snd (Prod.snd (Prod.snd (Prod.snd o7)))) (Prod.fst o7) (Prod.fst (Prod.snd o7)) (Prod.fst (Prod.snd (Prod.snd o7))) (Prod.fst (Prod.snd (Prod.snd (Prod.snd o7)))) 5) fun o8 =>
                k (.bool (decide (Prod.fst o8 = if Go.IntKind.wrap .i64 (Int.tmod (Go.IntKind.wrap .u64 b) 1000001) > Go.IntKind.wrap .i64 (Int.tmod (Go.IntKind.wrap .u64 a) 1000001) then Go.IntKind.wrap .i64 (Int.tmod (Go.IntKind.wrap .u64 b) 1000001) else Go.IntKind.wrap .i64 (Int.tmod (Go.IntKind.wrap .u64 a) 1000001)))) ([]))) (fun o7 : Nat × Int × Int × List (Option (Int × Int)) =>
    k (.bool false) ([])) (o6)))) (o4)))) (S.dput1 o2 0 5 (Go.IntKind.wrap .i64 (Int.tmod (Go.IntKind.wrap .u64 a) 1000001))))) (S.dnew (Go.IntKind.wrap .i64 (Int.tmod (Go.IntKind.wrap .u64 x) 601))))) := by kernel_rfl
def S.DelayBounds (a b x : Int) : Option (Bool) :=
  (Sum.elim (fun o2 : Unit =>
    some (false)) (fun o2 : Int =>
    (Sum.elim (fun o3 : Int × Int =>
    some (false)) (fun o3 : Int × Int × List (Option (Int × Int)) =>
    (optK (S.dput (Prod.snd (Prod.snd o3)) 0 1 (Prod.fst o3) (Prod.fst (Prod.snd o3)) 5 (Go.IntKind.wrap .i64 (Int.tmod (Go.IntKind.wrap .u64 b) 1000001))) fun o4 =>
        (Sum.elim (fun o5 : Nat × Nat × Int × Int × List (Option (Int × Int)) =>
    some (false)) (fun o5 : Nat × Int × Int × List (Option (Int × Int)) =>
    (optK (S.dput (Prod.snd (Prod.snd (Prod.snd o5))) 0 (Prod.fst o5) (Prod.fst (Prod.snd o5)) (Prod.fst (Prod.snd (Prod.snd o5))) 4 9) fun o6 =>
            (Sum.elim (fun o7 : Nat × Nat × Int × Int × List (Option (Int × Int)) =>
    (optK (S.dmost 100000 (Prod.snd (Prod.snd (Prod.snd (Prod.snd o7)))) (Prod.fst o7) (Prod.fst (Prod.snd o7)) (Prod.fst (Prod.snd (Prod.snd o7))) (Prod.fst (Prod.snd (Prod.snd (Prod.snd o7)))) 5) fun o8 =>
                some (decide (Prod.fst o8 = if Go.IntKind.wrap .i64 (Int.tmod (Go.IntKind.wrap .u64 b) 1000001) > Go.IntKind.wrap .i64 (Int.tmod (Go.IntKind.wrap .u64 a) 1000001) then Go.IntKind.wrap .i64 (Int.tmod (Go.IntKind.wrap .u64 b) 1000001) else Go.IntKind.wrap .i64 (Int.tmod (Go.IntKind.wrap .u64 a) 1000001))))) (fun o7 : Nat × Int × Int × List (Option (Int × Int)) =>
    some (false)) (o6)))) (o4)))) (S.dput1 o2 0 5 (Go.IntKind.wrap .i64 (Int.tmod (Go.IntKind.wrap .u64 a) 1000001))))) (S.dnew (Go.IntKind.wrap .i64 (Int.tmod (Go.IntKind.wrap .u64 x) 601))))
theorem S.DelayBounds_v {R : Type} (a b x : Int) (k : AVal → List Blk → Option R) : fnEval tis F10 40 G31 Try.f10 [.int .i64 a, .int .i64 b, .int .i64 x] [] k = oK (fun v : Bool => k (.bool v) []) (S.DelayBounds a b x) :=
  (S.DelayBounds_k a b x k).trans (by
      unfold S.DelayBounds
      refine sumF_lift (f := (oK (fun v : Bool => k (.bool v) []))) (fun o2 => ?_) (fun o2 => ?_) _
      · 
        exact rfl
      · 
        refine sumF_lift (f := (oK (fun v : Bool => k (.bool v) []))) (fun o3 => ?_) (fun o3 => ?_) _
        · 
          exact rfl
        · 
          refine opt_lift fun o4 => ?_
          refine sumF_lift (f := (oK (fun v : Bool => k (.bool v) []))) (fun o5 => ?_) (fun o5 => ?_) _
          · 
            exact rfl
          · 
            refine opt_lift fun o6 => ?_
            refine sumF_lift (f := (oK (fun v : Bool => k (.bool v) []))) (fun o7 => ?_) (fun o7 => ?_) _
            · 
              refine opt_lift fun o8 => ?_
              exact rfl
            · 
              exact rfl
      )
def H10 : Hnd := fun R args σ k => match args, σ with
  | [.int .i64 a, .int .i64 b, .int .i64 x], [] => oK (fun v : Bool => k (.bool v) []) (S.DelayBounds a b x)
  | _, _ => none
theorem H10_ok : HndOk Try.prog 10 H10 := hnd_ok tis tisOk mixOk G31_ok F10 Try.func10 rfl (by
  intro R args σ k r h
  unfold H10 at h
  split at h
  · rename_i a b x; exact ⟨40, (S.DelayBounds_v a b x _).trans h⟩
  · cases h)
def G10 : Env := Env.add 10 H10 G31
theorem G10_ok : EnvOk Try.prog G10 := envAdd_ok H10_ok G31_ok
end Go.Proofs.Ytfoaihjkmfhaoaa.AB
