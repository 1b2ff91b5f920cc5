/- RingLate, as a plain function. -/
import Derived.Test.YtmgnfjiogfcieaaSringz
namespace Go.Proofs.Ytmgnfjiogfcieaa.AB
set_option linter.unusedVariables false

/-! spinnakerlaw5.RingLate -/
def F3 : FCfg := ⟨keepAt [(0, [0, 1, 2]), (1, [1, 2, 7]), (2, [1, 2, 7, 8]), (3, [2, 7, 8, 9]), (4, [7, 8, 9, 10]), (5, [7, 8, 9, 10, 49]), (6, [6]), (7, [7, 8, 9, 10, 11, 12]), (8, [7, 8, 9, 10, 11, 12, 13, 14]), (9, [9, 10, 11, 12, 13, 14, 15, 16]), (10, [9, 10, 11, 12, 13, 14, 15, 16, 17]), (11, [10, 11, 12, 13, 14, 15, 16, 17, 75]), (12, [10, 11, 12, 13, 14, 15, 16, 17]), (13, [6])], loopAt [], []⟩
theorem S.RingLate_k {R : Type} (w q v : Int) (k : AVal → List Blk → Option R) : fnEval tis F3 0 G21s Try.f3 [.int .i64 w, .int .i64 q, .int .i64 v] [] k =
  ((optK (S.q_pring (Go.IntKind.wrap .i64 (2 + Go.IntKind.wrap .i64 (Int.tmod (Go.IntKind.wrap .u64 w) 59))) 1) fun o2 =>
    (Sum.elim (fun o3 : Unit =>
    bif decide (Go.IntKind.wrap .u64 (Go.IntKind.wrap .i64 (2 + Go.IntKind.wrap .i64 (Int.tmod (Go.IntKind.wrap .u64 w) 59))) = 0) then
        none
      else
        k (.bool false) ([])) (fun o3 : Int × Int × Int =>
    bif decide (Go.IntKind.wrap .u64 (Go.IntKind.wrap .i64 (2 + Go.IntKind.wrap .i64 (Int.tmod (Go.IntKind.wrap .u64 w) 59))) = 0) then
        none
      else
        (optK (S.q_rp1 o3.1 o3.2.1 o3.2.2 (-1) false 500 1) fun o5 =>
          bif !decide (o5.1 = 0) then
            k (.bool false) ([])
          else
            (optK (S.q_rp o5.2.2.2.2.2.2.2.1 o5.2.2.2.2.2.2.2.2 0 o5.2.1 o5.2.2.1 o5.2.2.2.1 o5.2.2.2.2.1 o5.2.2.2.2.2.1 o5.2.2.2.2.2.2.1 (Go.IntKind.wrap .i64 (500 - Go.IntKind.wrap .i64 (Int.tmod (Go.IntKind.wrap .u64 q) (Go.IntKind.wrap .u64 (Go.IntKind.wrap .i64 (2 + Go.IntKind.wrap .i64 (Int.tmod (Go.IntKind.wrap .u64 w) 59))))))) (Go.IntKind.wrap .i64 (Int.tmod (Go.IntKind.wrap .u64 v) 1000000))) fun o7 =>
              bif !decide (o7.1 = 0) then
                k (.bool false) ([])
              else
                (optK (S.q_rs 100000 o7.2.2.2.2.2.2.2.2.1 o7.2.2.2.2.2.2.2.2.2 o7.2.1 o7.2.2.1 o7.2.2.2.1 o7.2.2.2.2.1 o7.2.2.2.2.2.1 o7.2.2.2.2.2.2.1 o7.2.2.2.2.2.2.2.1 500) fun o9 =>
                  (optK (S.q_rs 100000 o9.2.2.2.2.2.2.2.2.2.1 o9.2.2.2.2.2.2.2.2.2.2 o9.2.2.1 o9.2.2.2.1 o9.2.2.2.2.1 o9.2.2.2.2.2.1 o9.2.2.2.2.2.2.1 o9.2.2.2.2.2.2.2.1 o9.2.2.2.2.2.2.2.2.1 (Go.IntKind.wrap .i64 (Go.IntKind.wrap .i64 (500 - Go.IntKind.wrap .i64 (Int.tmod (Go.IntKind.wrap .u64 q) (Go.IntKind.wrap .u64 (Go.IntKind.wrap .i64 (2 + Go.IntKind.wrap .i64 (Int.tmod (Go.IntKind.wrap .u64 w) 59)))))) + Go.IntKind.wrap .i64 (2 + Go.IntKind.wrap .i64 (Int.tmod (Go.IntKind.wrap .u64 w) 59))))) fun o10 =>
                    (optK (S.q_rs 100000 o10.2.2.2.2.2.2.2.2.2.1 o10.2.2.2.2.2.2.2.2.2.2 o10.2.2.1 o10.2.2.2.1 o10.2.2.2.2.1 o10.2.2.2.2.2.1 o10.2.2.2.2.2.2.1 o10.2.2.2.2.2.2.2.1 o10.2.2.2.2.2.2.2.2.1 (Go.IntKind.wrap .i64 (Go.IntKind.wrap .i64 (Go.IntKind.wrap .i64 (500 - Go.IntKind.wrap .i64 (Int.tmod (Go.IntKind.wrap .u64 q) (Go.IntKind.wrap .u64 (Go.IntKind.wrap .i64 (2 + Go.IntKind.wrap .i64 (Int.tmod (Go.IntKind.wrap .u64 w) 59)))))) + Go.IntKind.wrap .i64 (2 + Go.IntKind.wrap .i64 (Int.tmod (Go.IntKind.wrap .u64 w) 59))) - 1))) fun o11 =>
                      bif decide (Go.IntKind.wrap .i64 (Int.tmod (Go.IntKind.wrap .u64 q) (Go.IntKind.wrap .u64 (Go.IntKind.wrap .i64 (2 + Go.IntKind.wrap .i64 (Int.tmod (Go.IntKind.wrap .u64 w) 59))))) = 0) then
                        bif decide (o9.1 = Go.IntKind.wrap .i64 (1 + Go.IntKind.wrap .i64 (Int.tmod (Go.IntKind.wrap .u64 v) 1000000))) then
                          bif decide (o9.2.1 = 2) then
                            bif decide (o10.2.1 = 0) then
                              bif decide (o10.1 = 0) then
                                bif decide (o11.2.1 = 2) then
                                  k (.bool (decide (o11.1 = Go.IntKind.wrap .i64 (1 + Go.IntKind.wrap .i64 (Int.tmod (Go.IntKind.wrap .u64 v) 1000000))))) ([])
                                else
                                  k (.bool false) ([])
                              else
                                k (.bool false) ([])
                            else
                              k (.bool false) ([])
                          else
                            k (.bool false) ([])
                        else
                          k (.bool false) ([])
                      else
                        bif decide (o9.1 = Go.IntKind.wrap .i64 (1 + Go.IntKind.wrap .i64 (Int.tmod (Go.IntKind.wrap .u64 v) 1000000))) then
                          bif decide (o9.2.1 = 2) then
                            bif decide (o10.2.1 = 1) then
                              bif decide (o10.1 = 1) then
                                bif decide (o11.2.1 = 2) then
                                  k (.bool (decide (o11.1 = Go.IntKind.wrap .i64 (1 + Go.IntKind.wrap .i64 (Int.tmod (Go.IntKind.wrap .u64 v) 1000000))))) ([])
                                else
                                  k (.bool false) ([])
                              else
                                k (.bool false) ([])
                            else
                              k (.bool false) ([])
                          else
                            k (.bool false) ([])
                        else
                          k (.bool false) ([]))))))) (o2)))) := by kernel_rfl
noncomputable def S.RingLate (w q v : Int) : Option (Bool) :=
  (optK (S.q_pring (Go.IntKind.wrap .i64 (2 + Go.IntKind.wrap .i64 (Int.tmod (Go.IntKind.wrap .u64 w) 59))) 1) fun o2 =>
    (Sum.elim (fun o3 : Unit =>
    bif decide (Go.IntKind.wrap .u64 (Go.IntKind.wrap .i64 (2 + Go.IntKind.wrap .i64 (Int.tmod (Go.IntKind.wrap .u64 w) 59))) = 0) then
        none
      else
        some (false)) (fun o3 : Int × Int × Int =>
    bif decide (Go.IntKind.wrap .u64 (Go.IntKind.wrap .i64 (2 + Go.IntKind.wrap .i64 (Int.tmod (Go.IntKind.wrap .u64 w) 59))) = 0) then
        none
      else
        (optK (S.q_rp1 o3.1 o3.2.1 o3.2.2 (-1) false 500 1) fun o5 =>
          bif !decide (o5.1 = 0) then
            some (false)
          else
            (optK (S.q_rp o5.2.2.2.2.2.2.2.1 o5.2.2.2.2.2.2.2.2 0 o5.2.1 o5.2.2.1 o5.2.2.2.1 o5.2.2.2.2.1 o5.2.2.2.2.2.1 o5.2.2.2.2.2.2.1 (Go.IntKind.wrap .i64 (500 - Go.IntKind.wrap .i64 (Int.tmod (Go.IntKind.wrap .u64 q) (Go.IntKind.wrap .u64 (Go.IntKind.wrap .i64 (2 + Go.IntKind.wrap .i64 (Int.tmod (Go.IntKind.wrap .u64 w) 59))))))) (Go.IntKind.wrap .i64 (Int.tmod (Go.IntKind.wrap .u64 v) 1000000))) fun o7 =>
              bif !decide (o7.1 = 0) then
                some (false)
              else
                (optK (S.q_rs 100000 o7.2.2.2.2.2.2.2.2.1 o7.2.2.2.2.2.2.2.2.2 o7.2.1 o7.2.2.1 o7.2.2.2.1 o7.2.2.2.2.1 o7.2.2.2.2.2.1 o7.2.2.2.2.2.2.1 o7.2.2.2.2.2.2.2.1 500) fun o9 =>
                  (optK (S.q_rs 100000 o9.2.2.2.2.2.2.2.2.2.1 o9.2.2.2.2.2.2.2.2.2.2 o9.2.2.1 o9.2.2.2.1 o9.2.2.2.2.1 o9.2.2.2.2.2.1 o9.2.2.2.2.2.2.1 o9.2.2.2.2.2.2.2.1 o9.2.2.2.2.2.2.2.2.1 (Go.IntKind.wrap .i64 (Go.IntKind.wrap .i64 (500 - Go.IntKind.wrap .i64 (Int.tmod (Go.IntKind.wrap .u64 q) (Go.IntKind.wrap .u64 (Go.IntKind.wrap .i64 (2 + Go.IntKind.wrap .i64 (Int.tmod (Go.IntKind.wrap .u64 w) 59)))))) + Go.IntKind.wrap .i64 (2 + Go.IntKind.wrap .i64 (Int.tmod (Go.IntKind.wrap .u64 w) 59))))) fun o10 =>
                    (optK (S.q_rs 100000 o10.2.2.2.2.2.2.2.2.2.1 o10.2.2.2.2.2.2.2.2.2.2 o10.2.2.1 o10.2.2.2.1 o10.2.2.2.2.1 o10.2.2.2.2.2.1 o10.2.2.2.2.2.2.1 o10.2.2.2.2.2.2.2.1 o10.2.2.2.2.2.2.2.2.1 (Go.IntKind.wrap .i64 (Go.IntKind.wrap .i64 (Go.IntKind.wrap .i64 (500 - Go.IntKind.wrap .i64 (Int.tmod (Go.IntKind.wrap .u64 q) (Go.IntKind.wrap .u64 (Go.IntKind.wrap .i64 (2 + Go.IntKind.wrap .i64 (Int.tmod (Go.IntKind.wrap .u64 w) 59)))))) + Go.IntKind.wrap .i64 (2 + Go.IntKind.wrap .i64 (Int.tmod (Go.IntKind.wrap .u64 w) 59))) - 1))) fun o11 =>
                      bif decide (Go.IntKind.wrap .i64 (Int.tmod (Go.IntKind.wrap .u64 q) (Go.IntKind.wrap .u64 (Go.IntKind.wrap .i64 (2 + Go.IntKind.wrap .i64 (Int.tmod (Go.IntKind.wrap .u64 w) 59))))) = 0) then
                        bif decide (o9.1 = Go.IntKind.wrap .i64 (1 + Go.IntKind.wrap .i64 (Int.tmod (Go.IntKind.wrap .u64 v) 1000000))) then
                          bif decide (o9.2.1 = 2) then
                            bif decide (o10.2.1 = 0) then
                              bif decide (o10.1 = 0) then
                                bif decide (o11.2.1 = 2) then
                                  some (decide (o11.1 = Go.IntKind.wrap .i64 (1 + Go.IntKind.wrap .i64 (Int.tmod (Go.IntKind.wrap .u64 v) 1000000))))
                                else
                                  some (false)
                              else
                                some (false)
                            else
                              some (false)
                          else
                            some (false)
                        else
                          some (false)
                      else
                        bif decide (o9.1 = Go.IntKind.wrap .i64 (1 + Go.IntKind.wrap .i64 (Int.tmod (Go.IntKind.wrap .u64 v) 1000000))) then
                          bif decide (o9.2.1 = 2) then
                            bif decide (o10.2.1 = 1) then
                              bif decide (o10.1 = 1) then
                                bif decide (o11.2.1 = 2) then
                                  some (decide (o11.1 = Go.IntKind.wrap .i64 (1 + Go.IntKind.wrap .i64 (Int.tmod (Go.IntKind.wrap .u64 v) 1000000))))
                                else
                                  some (false)
                              else
                                some (false)
                            else
                              some (false)
                          else
                            some (false)
                        else
                          some (false))))))) (o2)))
theorem S.RingLate_v {R : Type} (w q v : Int) (k : AVal → List Blk → Option R) : fnEval tis F3 0 G21s Try.f3 [.int .i64 w, .int .i64 q, .int .i64 v] [] k = oK (fun v : Bool => k (.bool v) []) (S.RingLate w q v) :=
  (S.RingLate_k w q v k).trans (by
      unfold S.RingLate
      refine opt_lift fun o2 => ?_
      refine sumF_lift (f := (oK (fun v : Bool => k (.bool v) []))) (fun o3 => ?_) (fun o3 => ?_) _
      · 
        refine bif_lift (f := (oK (fun v : Bool => k (.bool v) []))) ?_ ?_
        · 
          exact rfl
        · 
          exact rfl
      · 
        refine bif_lift (f := (oK (fun v : Bool => k (.bool v) []))) ?_ ?_
        · 
          exact rfl
        · 
          refine opt_lift fun o5 => ?_
          refine bif_lift (f := (oK (fun v : Bool => k (.bool v) []))) ?_ ?_
          · 
            exact rfl
          · 
            refine opt_lift fun o7 => ?_
            refine bif_lift (f := (oK (fun v : Bool => k (.bool v) []))) ?_ ?_
            · 
              exact rfl
            · 
              refine opt_lift fun o9 => ?_
              refine opt_lift fun o10 => ?_
              refine opt_lift fun o11 => ?_
              refine bif_lift (f := (oK (fun v : Bool => k (.bool v) []))) ?_ ?_
              · 
                refine bif_lift (f := (oK (fun v : Bool => k (.bool v) []))) ?_ ?_
                · 
                  refine bif_lift (f := (oK (fun v : Bool => k (.bool v) []))) ?_ ?_
                  · 
                    refine bif_lift (f := (oK (fun v : Bool => k (.bool v) []))) ?_ ?_
                    · 
                      refine bif_lift (f := (oK (fun v : Bool => k (.bool v) []))) ?_ ?_
                      · 
                        refine bif_lift (f := (oK (fun v : Bool => k (.bool v) []))) ?_ ?_
                        · 
                          exact rfl
                        · 
                          exact rfl
                      · 
                        exact rfl
                    · 
                      exact rfl
                  · 
                    exact rfl
                · 
                  exact rfl
              · 
                refine bif_lift (f := (oK (fun v : Bool => k (.bool v) []))) ?_ ?_
                · 
                  refine bif_lift (f := (oK (fun v : Bool => k (.bool v) []))) ?_ ?_
                  · 
                    refine bif_lift (f := (oK (fun v : Bool => k (.bool v) []))) ?_ ?_
                    · 
                      refine bif_lift (f := (oK (fun v : Bool => k (.bool v) []))) ?_ ?_
                      · 
                        refine bif_lift (f := (oK (fun v : Bool => k (.bool v) []))) ?_ ?_
                        · 
                          exact rfl
                        · 
                          exact rfl
                      · 
                        exact rfl
                    · 
                      exact rfl
                  · 
                    exact rfl
                · 
                  exact rfl
      )
noncomputable def H3 : Hnd := fun R args σ k => match args, σ with
  | [.int .i64 w, .int .i64 q, .int .i64 v], [] => oK (fun v : Bool => k (.bool v) []) (S.RingLate w q v)
  | _, _ => none
theorem H3_ok : HndOk Try.prog 3 H3 := hnd_ok tis tisOk mixOk G21s_ok F3 Try.func3 rfl (by
  intro R args σ k r h
  unfold H3 at h
  split at h
  · rename_i w q v; exact ⟨0, (S.RingLate_v w q v _).trans h⟩
  · cases h)
noncomputable def G3 : Env := Env.add 3 H3 G21s
theorem G3_ok : EnvOk Try.prog G3 := envAdd_ok H3_ok G21s_ok
end Go.Proofs.Ytmgnfjiogfcieaa.AB
