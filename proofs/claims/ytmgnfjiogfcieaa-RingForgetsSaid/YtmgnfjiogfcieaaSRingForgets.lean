/- RingForgets, as a plain function. -/
import Derived.Test.YtmgnfjiogfcieaaSringz
namespace Go.Proofs.Ytmgnfjiogfcieaa.AB
set_option linter.unusedVariables false

/-! spinnakerlaw5.RingForgets -/
def F8 : FCfg := ⟨keepAt [(0, [0, 1, 2]), (1, [1, 2, 7]), (2, [2, 7, 8]), (3, [2, 7, 8, 9]), (4, [2, 7, 9, 43]), (5, [6]), (6, [2, 7, 9, 10, 11]), (7, [7, 9, 10, 11, 12]), (8, [7, 9, 10, 11, 12, 13]), (9, [9, 10, 11, 12, 13, 14, 15]), (10, [10, 11, 13, 14, 15, 16, 17]), (11, [6])], loopAt [], []⟩
theorem S.RingForgets_k {R : Type} (w v b : Int) (k : AVal → List Blk → Option R) : fnEval tis F8 0 G21s Try.f8 [.int .i64 w, .int .i64 v, .int .i64 b] [] k =
  ((optK (S.q_pring (Go.IntKind.wrap .i64 (1 + Go.IntKind.wrap .i64 (Int.tmod (Go.IntKind.wrap .u64 w) 60))) 1) fun o2 =>
    (Sum.elim (fun o3 : Unit =>
    k (.bool false) ([])) (fun o3 : Int × Int × Int =>
    (optK (S.q_rp1 o3.1 o3.2.1 o3.2.2 (-1) false 100 (Go.IntKind.wrap .i64 (Int.tmod (Go.IntKind.wrap .u64 v) 1000000))) fun o4 =>
        bif !decide (o4.1 = 0) then
          k (.bool false) ([])
        else
          (optK (S.q_rp o4.2.2.2.2.2.2.2.1 o4.2.2.2.2.2.2.2.2 0 o4.2.1 o4.2.2.1 o4.2.2.2.1 o4.2.2.2.2.1 o4.2.2.2.2.2.1 o4.2.2.2.2.2.2.1 (Go.IntKind.wrap .i64 (100 + Go.IntKind.wrap .i64 (1 + Go.IntKind.wrap .i64 (Int.tmod (Go.IntKind.wrap .u64 w) 60)))) 5) fun o6 =>
            bif !decide (o6.1 = 0) then
              k (.bool false) ([])
            else
              (optK (S.q_rs 100000 o6.2.2.2.2.2.2.2.2.1 o6.2.2.2.2.2.2.2.2.2 o6.2.1 o6.2.2.1 o6.2.2.2.1 o6.2.2.2.2.1 o6.2.2.2.2.2.1 o6.2.2.2.2.2.2.1 o6.2.2.2.2.2.2.2.1 100) fun o8 =>
                (optK (S.q_rp o8.2.2.2.2.2.2.2.2.2.1 o8.2.2.2.2.2.2.2.2.2.2 o8.2.2.1 o8.2.2.2.1 o8.2.2.2.2.1 o8.2.2.2.2.2.1 o8.2.2.2.2.2.2.1 o8.2.2.2.2.2.2.2.1 o8.2.2.2.2.2.2.2.2.1 (Go.IntKind.wrap .i64 (100 - Go.IntKind.wrap .i64 (Int.tmod (Go.IntKind.wrap .u64 b) 50))) 9) fun o9 =>
                  (optK (S.q_rs 100000 o9.2.2.2.2.2.2.2.2.1 o9.2.2.2.2.2.2.2.2.2 o9.2.1 o9.2.2.1 o9.2.2.2.1 o9.2.2.2.2.1 o9.2.2.2.2.2.1 o9.2.2.2.2.2.2.1 o9.2.2.2.2.2.2.2.1 (Go.IntKind.wrap .i64 (100 + Go.IntKind.wrap .i64 (1 + Go.IntKind.wrap .i64 (Int.tmod (Go.IntKind.wrap .u64 w) 60))))) fun o10 =>
                    (optK (S.q_rs 100000 o10.2.2.2.2.2.2.2.2.2.1 o10.2.2.2.2.2.2.2.2.2.2 o10.2.2.1 o10.2.2.2.1 o10.2.2.2.2.1 o10.2.2.2.2.2.1 o10.2.2.2.2.2.2.1 o10.2.2.2.2.2.2.2.1 o10.2.2.2.2.2.2.2.2.1 (Go.IntKind.wrap .i64 (100 - Go.IntKind.wrap .i64 (Int.tmod (Go.IntKind.wrap .u64 b) 50)))) fun o11 =>
                      bif decide (o8.1 = 0) then
                        bif decide (o8.2.1 = 0) then
                          bif decide (o9.1 = 0) then
                            bif decide (o10.1 = 5) then
                              bif decide (o10.2.1 = 1) then
                                bif decide (o11.1 = 0) then
                                  k (.bool (decide (o11.2.1 = 0))) ([])
                                else
                                  k (.bool false) ([])
                              else
                                k (.bool false) ([])
                            else
                              k (.bool false) ([])
                          else
                            k (.bool false) ([])
                        else
                          k (.bool false) ([])
                      else
                        k (.bool false) ([])))))))) (o2)))) := by kernel_rfl
noncomputable def S.RingForgets (w v b : Int) : Option (Bool) :=
  (optK (S.q_pring (Go.IntKind.wrap .i64 (1 + Go.IntKind.wrap .i64 (Int.tmod (Go.IntKind.wrap .u64 w) 60))) 1) fun o2 =>
    (Sum.elim (fun o3 : Unit =>
    some (false)) (fun o3 : Int × Int × Int =>
    (optK (S.q_rp1 o3.1 o3.2.1 o3.2.2 (-1) false 100 (Go.IntKind.wrap .i64 (Int.tmod (Go.IntKind.wrap .u64 v) 1000000))) fun o4 =>
        bif !decide (o4.1 = 0) then
          some (false)
        else
          (optK (S.q_rp o4.2.2.2.2.2.2.2.1 o4.2.2.2.2.2.2.2.2 0 o4.2.1 o4.2.2.1 o4.2.2.2.1 o4.2.2.2.2.1 o4.2.2.2.2.2.1 o4.2.2.2.2.2.2.1 (Go.IntKind.wrap .i64 (100 + Go.IntKind.wrap .i64 (1 + Go.IntKind.wrap .i64 (Int.tmod (Go.IntKind.wrap .u64 w) 60)))) 5) fun o6 =>
            bif !decide (o6.1 = 0) then
              some (false)
            else
              (optK (S.q_rs 100000 o6.2.2.2.2.2.2.2.2.1 o6.2.2.2.2.2.2.2.2.2 o6.2.1 o6.2.2.1 o6.2.2.2.1 o6.2.2.2.2.1 o6.2.2.2.2.2.1 o6.2.2.2.2.2.2.1 o6.2.2.2.2.2.2.2.1 100) fun o8 =>
                (optK (S.q_rp o8.2.2.2.2.2.2.2.2.2.1 o8.2.2.2.2.2.2.2.2.2.2 o8.2.2.1 o8.2.2.2.1 o8.2.2.2.2.1 o8.2.2.2.2.2.1 o8.2.2.2.2.2.2.1 o8.2.2.2.2.2.2.2.1 o8.2.2.2.2.2.2.2.2.1 (Go.IntKind.wrap .i64 (100 - Go.IntKind.wrap .i64 (Int.tmod (Go.IntKind.wrap .u64 b) 50))) 9) fun o9 =>
                  (optK (S.q_rs 100000 o9.2.2.2.2.2.2.2.2.1 o9.2.2.2.2.2.2.2.2.2 o9.2.1 o9.2.2.1 o9.2.2.2.1 o9.2.2.2.2.1 o9.2.2.2.2.2.1 o9.2.2.2.2.2.2.1 o9.2.2.2.2.2.2.2.1 (Go.IntKind.wrap .i64 (100 + Go.IntKind.wrap .i64 (1 + Go.IntKind.wrap .i64 (Int.tmod (Go.IntKind.wrap .u64 w) 60))))) fun o10 =>
                    (optK (S.q_rs 100000 o10.2.2.2.2.2.2.2.2.2.1 o10.2.2.2.2.2.2.2.2.2.2 o10.2.2.1 o10.2.2.2.1 o10.2.2.2.2.1 o10.2.2.2.2.2.1 o10.2.2.2.2.2.2.1 o10.2.2.2.2.2.2.2.1 o10.2.2.2.2.2.2.2.2.1 (Go.IntKind.wrap .i64 (100 - Go.IntKind.wrap .i64 (Int.tmod (Go.IntKind.wrap .u64 b) 50)))) fun o11 =>
                      bif decide (o8.1 = 0) then
                        bif decide (o8.2.1 = 0) then
                          bif decide (o9.1 = 0) then
                            bif decide (o10.1 = 5) then
                              bif decide (o10.2.1 = 1) then
                                bif decide (o11.1 = 0) then
                                  some (decide (o11.2.1 = 0))
                                else
                                  some (false)
                              else
                                some (false)
                            else
                              some (false)
                          else
                            some (false)
                        else
                          some (false)
                      else
                        some (false)))))))) (o2)))
theorem S.RingForgets_v {R : Type} (w v b : Int) (k : AVal → List Blk → Option R) : fnEval tis F8 0 G21s Try.f8 [.int .i64 w, .int .i64 v, .int .i64 b] [] k = oK (fun v : Bool => k (.bool v) []) (S.RingForgets w v b) :=
  (S.RingForgets_k w v b k).trans (by
      unfold S.RingForgets
      refine opt_lift fun o2 => ?_
      refine sumF_lift (f := (oK (fun v : Bool => k (.bool v) []))) (fun o3 => ?_) (fun o3 => ?_) _
      · 
        exact rfl
      · 
        refine opt_lift fun o4 => ?_
        refine bif_lift (f := (oK (fun v : Bool => k (.bool v) []))) ?_ ?_
        · 
          exact rfl
        · 
          refine opt_lift fun o6 => ?_
          refine bif_lift (f := (oK (fun v : Bool => k (.bool v) []))) ?_ ?_
          · 
            exact rfl
          · 
            refine opt_lift fun o8 => ?_
            refine opt_lift fun o9 => ?_
            refine opt_lift fun o10 => ?_
            refine opt_lift fun o11 => ?_
            refine bif_lift (f := (oK (fun v : Bool => k (.bool v) []))) ?_ ?_
            · 
              refine bif_lift (f := (oK (fun v : Bool => k (.bool v) []))) ?_ ?_
              · 
                refine bif_lift (f := (oK (fun v : Bool => k (.bool v) []))) ?_ ?_
                · 
                  refine bif_lift (f := (oK (fun v : Bool => k (.bool v) []))) ?_ ?_
                  · 
                    refine bif_lift (f := (oK (fun v : Bool => k (.bool v) []))) ?_ ?_
                    · 
                      refine bif_lift (f := (oK (fun v : Bool => k (.bool v) []))) ?_ ?_
                      · 
                        exact rfl
                      · 
                        exact rfl
                    · 
                      exact rfl
                  · 
                    exact rfl
                · 
                  exact rfl
              · 
                exact rfl
            · 
              exact rfl
      )
noncomputable def H8 : Hnd := fun R args σ k => match args, σ with
  | [.int .i64 w, .int .i64 v, .int .i64 b], [] => oK (fun v : Bool => k (.bool v) []) (S.RingForgets w v b)
  | _, _ => none
theorem H8_ok : HndOk Try.prog 8 H8 := hnd_ok tis tisOk mixOk G21s_ok F8 Try.func8 rfl (by
  intro R args σ k r h
  unfold H8 at h
  split at h
  · rename_i w v b; exact ⟨0, (S.RingForgets_v w v b _).trans h⟩
  · cases h)
noncomputable def G8 : Env := Env.add 8 H8 G21s
theorem G8_ok : EnvOk Try.prog G8 := envAdd_ok H8_ok G21s_ok
end Go.Proofs.Ytmgnfjiogfcieaa.AB
