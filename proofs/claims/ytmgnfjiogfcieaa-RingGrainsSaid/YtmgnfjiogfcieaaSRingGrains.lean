/- RingGrains, as a plain function. -/
import Derived.Test.YtmgnfjiogfcieaaSringz
namespace Go.Proofs.Ytmgnfjiogfcieaa.AB
set_option linter.unusedVariables false

/-! spinnakerlaw5.RingGrains -/
def F9 : FCfg := ⟨keepAt [(0, [0, 1, 2]), (1, [1, 2, 7]), (2, [2, 7, 8]), (3, [2, 7, 8, 9]), (4, [7, 8, 9, 10]), (5, [7, 8, 9, 10, 42]), (6, [6]), (7, [7, 8, 9, 10, 12]), (8, [7, 8, 10, 12, 13, 14]), (9, [7, 8, 10, 12, 13, 14, 15]), (10, [7, 8, 10, 12, 13, 14, 16]), (11, [6])], loopAt [], []⟩
theorem S.RingGrains_k {R : Type} (w g a : Int) (k : AVal → List Blk → Option R) : fnEval tis F9 0 G21s Try.f9 [.int .i64 w, .int .i64 g, .int .i64 a] [] k =
  (bif decide (Go.IntKind.wrap .u64 (Go.IntKind.wrap .i64 (1 + Go.IntKind.wrap .i64 (Int.tmod (Go.IntKind.wrap .u64 w) 60))) = 0) then
    none
  else
    (optK (S.q_pring (Go.IntKind.wrap .i64 (1 + Go.IntKind.wrap .i64 (Int.tmod (Go.IntKind.wrap .u64 w) 60))) (Go.IntKind.wrap .i64 (1 + Go.IntKind.wrap .i64 (Int.tmod (Go.IntKind.wrap .u64 g) (Go.IntKind.wrap .u64 (Go.IntKind.wrap .i64 (1 + Go.IntKind.wrap .i64 (Int.tmod (Go.IntKind.wrap .u64 w) 60)))))))) fun o3 =>
      (Sum.elim (fun o4 : Unit =>
    k (.bool false) ([])) (fun o4 : Int × Int × Int =>
    (optK (S.q_rp1 o4.1 o4.2.1 o4.2.2 (-1) false 1000 7) fun o5 =>
          bif !decide (o5.1 = 0) then
            k (.bool false) ([])
          else
            (optK (S.q_rs 100000 o5.2.2.2.2.2.2.2.1 o5.2.2.2.2.2.2.2.2 0 o5.2.1 o5.2.2.1 o5.2.2.2.1 o5.2.2.2.2.1 o5.2.2.2.2.2.1 o5.2.2.2.2.2.2.1 (Go.IntKind.wrap .i64 (1000 + Go.IntKind.wrap .i64 (Int.tmod (Go.IntKind.wrap .u64 a) 200)))) fun o7 =>
              bif decide (Go.IntKind.wrap .i64 (1 + Go.IntKind.wrap .i64 (Int.tmod (Go.IntKind.wrap .u64 g) (Go.IntKind.wrap .u64 (Go.IntKind.wrap .i64 (1 + Go.IntKind.wrap .i64 (Int.tmod (Go.IntKind.wrap .u64 w) 60)))))) = 0) then
                none
              else
                bif decide (Prod.fst (S.rz o7.2.2.2.2.2.2.2.2.2.1 o7.2.2.2.2.2.2.2.2.2.2 o7.2.2.1 o7.2.2.2.1 o7.2.2.2.2.1 o7.2.2.2.2.2.1 o7.2.2.2.2.2.2.1 o7.2.2.2.2.2.2.2.1 o7.2.2.2.2.2.2.2.2.1) = Go.IntKind.wrap .i64 (1 + Go.IntKind.wrap .i64 (Int.tmod (Go.IntKind.wrap .u64 w) 60))) then
                  bif decide (Go.IntKind.wrap .i64 (1 + Go.IntKind.wrap .i64 (Int.tmod (Go.IntKind.wrap .u64 w) 60)) ≤ Go.IntKind.wrap .i64 (Prod.snd (S.rz o7.2.2.2.2.2.2.2.2.2.1 o7.2.2.2.2.2.2.2.2.2.2 o7.2.2.1 o7.2.2.2.1 o7.2.2.2.2.1 o7.2.2.2.2.2.1 o7.2.2.2.2.2.2.1 o7.2.2.2.2.2.2.2.1 o7.2.2.2.2.2.2.2.2.1) * Go.IntKind.wrap .i64 (1 + Go.IntKind.wrap .i64 (Int.tmod (Go.IntKind.wrap .u64 g) (Go.IntKind.wrap .u64 (Go.IntKind.wrap .i64 (1 + Go.IntKind.wrap .i64 (Int.tmod (Go.IntKind.wrap .u64 w) 60)))))))) then
                    bif decide (Go.IntKind.wrap .i64 (Go.IntKind.wrap .i64 (Prod.snd (S.rz o7.2.2.2.2.2.2.2.2.2.1 o7.2.2.2.2.2.2.2.2.2.2 o7.2.2.1 o7.2.2.2.1 o7.2.2.2.2.1 o7.2.2.2.2.2.1 o7.2.2.2.2.2.2.1 o7.2.2.2.2.2.2.2.1 o7.2.2.2.2.2.2.2.2.1) - 1) * Go.IntKind.wrap .i64 (1 + Go.IntKind.wrap .i64 (Int.tmod (Go.IntKind.wrap .u64 g) (Go.IntKind.wrap .u64 (Go.IntKind.wrap .i64 (1 + Go.IntKind.wrap .i64 (Int.tmod (Go.IntKind.wrap .u64 w) 60))))))) < Go.IntKind.wrap .i64 (1 + Go.IntKind.wrap .i64 (Int.tmod (Go.IntKind.wrap .u64 w) 60))) then
                      bif decide (o7.2.1 = 1) == decide (Go.IntKind.wrap .i64 (Go.IntKind.wrap .i64 (1 + Go.IntKind.wrap .i64 (Int.tmod (Go.IntKind.wrap .u64 g) (Go.IntKind.wrap .u64 (Go.IntKind.wrap .i64 (1 + Go.IntKind.wrap .i64 (Int.tmod (Go.IntKind.wrap .u64 w) 60)))))) * Go.IntKind.wrap .i64 (Go.IntKind.wrap .i64 (Go.IntKind.wrap .i64 (Int.tdiv (Go.IntKind.wrap .i64 (1000 + Go.IntKind.wrap .i64 (Int.tmod (Go.IntKind.wrap .u64 a) 200))) (Go.IntKind.wrap .i64 (1 + Go.IntKind.wrap .i64 (Int.tmod (Go.IntKind.wrap .u64 g) (Go.IntKind.wrap .u64 (Go.IntKind.wrap .i64 (1 + Go.IntKind.wrap .i64 (Int.tmod (Go.IntKind.wrap .u64 w) 60)))))))) - Prod.snd (S.rz o7.2.2.2.2.2.2.2.2.2.1 o7.2.2.2.2.2.2.2.2.2.2 o7.2.2.1 o7.2.2.2.1 o7.2.2.2.2.1 o7.2.2.2.2.2.1 o7.2.2.2.2.2.2.1 o7.2.2.2.2.2.2.2.1 o7.2.2.2.2.2.2.2.2.1)) + 1)) ≤ 1000) then
                        bif decide (Go.IntKind.wrap .i64 (1 + Go.IntKind.wrap .i64 (Int.tmod (Go.IntKind.wrap .u64 w) 60)) ≤ Go.IntKind.wrap .i64 (Int.tmod (Go.IntKind.wrap .u64 a) 200)) then
                          bif decide (Go.IntKind.wrap .i64 (Int.tmod (Go.IntKind.wrap .u64 a) 200) < Go.IntKind.wrap .i64 (Go.IntKind.wrap .i64 (1 + Go.IntKind.wrap .i64 (Int.tmod (Go.IntKind.wrap .u64 w) 60)) + Go.IntKind.wrap .i64 (1 + Go.IntKind.wrap .i64 (Int.tmod (Go.IntKind.wrap .u64 g) (Go.IntKind.wrap .u64 (Go.IntKind.wrap .i64 (1 + Go.IntKind.wrap .i64 (Int.tmod (Go.IntKind.wrap .u64 w) 60)))))))) then
                            k (.bool true) ([])
                          else
                            k (.bool (decide (o7.2.1 = 0))) ([])
                        else
                          bif decide (o7.2.1 = 1) then
                            bif decide (Go.IntKind.wrap .i64 (Int.tmod (Go.IntKind.wrap .u64 a) 200) < Go.IntKind.wrap .i64 (Go.IntKind.wrap .i64 (1 + Go.IntKind.wrap .i64 (Int.tmod (Go.IntKind.wrap .u64 w) 60)) + Go.IntKind.wrap .i64 (1 + Go.IntKind.wrap .i64 (Int.tmod (Go.IntKind.wrap .u64 g) (Go.IntKind.wrap .u64 (Go.IntKind.wrap .i64 (1 + Go.IntKind.wrap .i64 (Int.tmod (Go.IntKind.wrap .u64 w) 60)))))))) then
                              k (.bool true) ([])
                            else
                              k (.bool (decide (o7.2.1 = 0))) ([])
                          else
                            bif decide (Go.IntKind.wrap .i64 (Go.IntKind.wrap .i64 (1 + Go.IntKind.wrap .i64 (Int.tmod (Go.IntKind.wrap .u64 w) 60)) - Go.IntKind.wrap .i64 (1 + Go.IntKind.wrap .i64 (Int.tmod (Go.IntKind.wrap .u64 g) (Go.IntKind.wrap .u64 (Go.IntKind.wrap .i64 (1 + Go.IntKind.wrap .i64 (Int.tmod (Go.IntKind.wrap .u64 w) 60))))))) < Go.IntKind.wrap .i64 (Int.tmod (Go.IntKind.wrap .u64 a) 200)) then
                              bif decide (Go.IntKind.wrap .i64 (Int.tmod (Go.IntKind.wrap .u64 a) 200) < Go.IntKind.wrap .i64 (Go.IntKind.wrap .i64 (1 + Go.IntKind.wrap .i64 (Int.tmod (Go.IntKind.wrap .u64 w) 60)) + Go.IntKind.wrap .i64 (1 + Go.IntKind.wrap .i64 (Int.tmod (Go.IntKind.wrap .u64 g) (Go.IntKind.wrap .u64 (Go.IntKind.wrap .i64 (1 + Go.IntKind.wrap .i64 (Int.tmod (Go.IntKind.wrap .u64 w) 60)))))))) then
                                k (.bool true) ([])
                              else
                                k (.bool (decide (o7.2.1 = 0))) ([])
                            else
                              k (.bool false) ([])
                      else
                        k (.bool false) ([])
                    else
                      k (.bool false) ([])
                  else
                    k (.bool false) ([])
                else
                  k (.bool false) ([])))) (o3)))) := by kernel_rfl
noncomputable def S.RingGrains (w g a : Int) : Option (Bool) :=
  bif decide (Go.IntKind.wrap .u64 (Go.IntKind.wrap .i64 (1 + Go.IntKind.wrap .i64 (Int.tmod (Go.IntKind.wrap .u64 w) 60))) = 0) then
    none
  else
    (optK (S.q_pring (Go.IntKind.wrap .i64 (1 + Go.IntKind.wrap .i64 (Int.tmod (Go.IntKind.wrap .u64 w) 60))) (Go.IntKind.wrap .i64 (1 + Go.IntKind.wrap .i64 (Int.tmod (Go.IntKind.wrap .u64 g) (Go.IntKind.wrap .u64 (Go.IntKind.wrap .i64 (1 + Go.IntKind.wrap .i64 (Int.tmod (Go.IntKind.wrap .u64 w) 60)))))))) fun o3 =>
      (Sum.elim (fun o4 : Unit =>
    some (false)) (fun o4 : Int × Int × Int =>
    (optK (S.q_rp1 o4.1 o4.2.1 o4.2.2 (-1) false 1000 7) fun o5 =>
          bif !decide (o5.1 = 0) then
            some (false)
          else
            (optK (S.q_rs 100000 o5.2.2.2.2.2.2.2.1 o5.2.2.2.2.2.2.2.2 0 o5.2.1 o5.2.2.1 o5.2.2.2.1 o5.2.2.2.2.1 o5.2.2.2.2.2.1 o5.2.2.2.2.2.2.1 (Go.IntKind.wrap .i64 (1000 + Go.IntKind.wrap .i64 (Int.tmod (Go.IntKind.wrap .u64 a) 200)))) fun o7 =>
              bif decide (Go.IntKind.wrap .i64 (1 + Go.IntKind.wrap .i64 (Int.tmod (Go.IntKind.wrap .u64 g) (Go.IntKind.wrap .u64 (Go.IntKind.wrap .i64 (1 + Go.IntKind.wrap .i64 (Int.tmod (Go.IntKind.wrap .u64 w) 60)))))) = 0) then
                none
              else
                bif decide (Prod.fst (S.rz o7.2.2.2.2.2.2.2.2.2.1 o7.2.2.2.2.2.2.2.2.2.2 o7.2.2.1 o7.2.2.2.1 o7.2.2.2.2.1 o7.2.2.2.2.2.1 o7.2.2.2.2.2.2.1 o7.2.2.2.2.2.2.2.1 o7.2.2.2.2.2.2.2.2.1) = Go.IntKind.wrap .i64 (1 + Go.IntKind.wrap .i64 (Int.tmod (Go.IntKind.wrap .u64 w) 60))) then
                  bif decide (Go.IntKind.wrap .i64 (1 + Go.IntKind.wrap .i64 (Int.tmod (Go.IntKind.wrap .u64 w) 60)) ≤ Go.IntKind.wrap .i64 (Prod.snd (S.rz o7.2.2.2.2.2.2.2.2.2.1 o7.2.2.2.2.2.2.2.2.2.2 o7.2.2.1 o7.2.2.2.1 o7.2.2.2.2.1 o7.2.2.2.2.2.1 o7.2.2.2.2.2.2.1 o7.2.2.2.2.2.2.2.1 o7.2.2.2.2.2.2.2.2.1) * Go.IntKind.wrap .i64 (1 + Go.IntKind.wrap .i64 (Int.tmod (Go.IntKind.wrap .u64 g) (Go.IntKind.wrap .u64 (Go.IntKind.wrap .i64 (1 + Go.IntKind.wrap .i64 (Int.tmod (Go.IntKind.wrap .u64 w) 60)))))))) then
                    bif decide (Go.IntKind.wrap .i64 (Go.IntKind.wrap .i64 (Prod.snd (S.rz o7.2.2.2.2.2.2.2.2.2.1 o7.2.2.2.2.2.2.2.2.2.2 o7.2.2.1 o7.2.2.2.1 o7.2.2.2.2.1 o7.2.2.2.2.2.1 o7.2.2.2.2.2.2.1 o7.2.2.2.2.2.2.2.1 o7.2.2.2.2.2.2.2.2.1) - 1) * Go.IntKind.wrap .i64 (1 + Go.IntKind.wrap .i64 (Int.tmod (Go.IntKind.wrap .u64 g) (Go.IntKind.wrap .u64 (Go.IntKind.wrap .i64 (1 + Go.IntKind.wrap .i64 (Int.tmod (Go.IntKind.wrap .u64 w) 60))))))) < Go.IntKind.wrap .i64 (1 + Go.IntKind.wrap .i64 (Int.tmod (Go.IntKind.wrap .u64 w) 60))) then
                      bif decide (o7.2.1 = 1) == decide (Go.IntKind.wrap .i64 (Go.IntKind.wrap .i64 (1 + Go.IntKind.wrap .i64 (Int.tmod (Go.IntKind.wrap .u64 g) (Go.IntKind.wrap .u64 (Go.IntKind.wrap .i64 (1 + Go.IntKind.wrap .i64 (Int.tmod (Go.IntKind.wrap .u64 w) 60)))))) * Go.IntKind.wrap .i64 (Go.IntKind.wrap .i64 (Go.IntKind.wrap .i64 (Int.tdiv (Go.IntKind.wrap .i64 (1000 + Go.IntKind.wrap .i64 (Int.tmod (Go.IntKind.wrap .u64 a) 200))) (Go.IntKind.wrap .i64 (1 + Go.IntKind.wrap .i64 (Int.tmod (Go.IntKind.wrap .u64 g) (Go.IntKind.wrap .u64 (Go.IntKind.wrap .i64 (1 + Go.IntKind.wrap .i64 (Int.tmod (Go.IntKind.wrap .u64 w) 60)))))))) - Prod.snd (S.rz o7.2.2.2.2.2.2.2.2.2.1 o7.2.2.2.2.2.2.2.2.2.2 o7.2.2.1 o7.2.2.2.1 o7.2.2.2.2.1 o7.2.2.2.2.2.1 o7.2.2.2.2.2.2.1 o7.2.2.2.2.2.2.2.1 o7.2.2.2.2.2.2.2.2.1)) + 1)) ≤ 1000) then
                        bif decide (Go.IntKind.wrap .i64 (1 + Go.IntKind.wrap .i64 (Int.tmod (Go.IntKind.wrap .u64 w) 60)) ≤ Go.IntKind.wrap .i64 (Int.tmod (Go.IntKind.wrap .u64 a) 200)) then
                          bif decide (Go.IntKind.wrap .i64 (Int.tmod (Go.IntKind.wrap .u64 a) 200) < Go.IntKind.wrap .i64 (Go.IntKind.wrap .i64 (1 + Go.IntKind.wrap .i64 (Int.tmod (Go.IntKind.wrap .u64 w) 60)) + Go.IntKind.wrap .i64 (1 + Go.IntKind.wrap .i64 (Int.tmod (Go.IntKind.wrap .u64 g) (Go.IntKind.wrap .u64 (Go.IntKind.wrap .i64 (1 + Go.IntKind.wrap .i64 (Int.tmod (Go.IntKind.wrap .u64 w) 60)))))))) then
                            some (true)
                          else
                            some (decide (o7.2.1 = 0))
                        else
                          bif decide (o7.2.1 = 1) then
                            bif decide (Go.IntKind.wrap .i64 (Int.tmod (Go.IntKind.wrap .u64 a) 200) < Go.IntKind.wrap .i64 (Go.IntKind.wrap .i64 (1 + Go.IntKind.wrap .i64 (Int.tmod (Go.IntKind.wrap .u64 w) 60)) + Go.IntKind.wrap .i64 (1 + Go.IntKind.wrap .i64 (Int.tmod (Go.IntKind.wrap .u64 g) (Go.IntKind.wrap .u64 (Go.IntKind.wrap .i64 (1 + Go.IntKind.wrap .i64 (Int.tmod (Go.IntKind.wrap .u64 w) 60)))))))) then
                              some (true)
                            else
                              some (decide (o7.2.1 = 0))
                          else
                            bif decide (Go.IntKind.wrap .i64 (Go.IntKind.wrap .i64 (1 + Go.IntKind.wrap .i64 (Int.tmod (Go.IntKind.wrap .u64 w) 60)) - Go.IntKind.wrap .i64 (1 + Go.IntKind.wrap .i64 (Int.tmod (Go.IntKind.wrap .u64 g) (Go.IntKind.wrap .u64 (Go.IntKind.wrap .i64 (1 + Go.IntKind.wrap .i64 (Int.tmod (Go.IntKind.wrap .u64 w) 60))))))) < Go.IntKind.wrap .i64 (Int.tmod (Go.IntKind.wrap .u64 a) 200)) then
                              bif decide (Go.IntKind.wrap .i64 (Int.tmod (Go.IntKind.wrap .u64 a) 200) < Go.IntKind.wrap .i64 (Go.IntKind.wrap .i64 (1 + Go.IntKind.wrap .i64 (Int.tmod (Go.IntKind.wrap .u64 w) 60)) + Go.IntKind.wrap .i64 (1 + Go.IntKind.wrap .i64 (Int.tmod (Go.IntKind.wrap .u64 g) (Go.IntKind.wrap .u64 (Go.IntKind.wrap .i64 (1 + Go.IntKind.wrap .i64 (Int.tmod (Go.IntKind.wrap .u64 w) 60)))))))) then
                                some (true)
                              else
                                some (decide (o7.2.1 = 0))
                            else
                              some (false)
                      else
                        some (false)
                    else
                      some (false)
                  else
                    some (false)
                else
                  some (false)))) (o3)))
theorem S.RingGrains_v {R : Type} (w g a : Int) (k : AVal → List Blk → Option R) : fnEval tis F9 0 G21s Try.f9 [.int .i64 w, .int .i64 g, .int .i64 a] [] k = oK (fun v : Bool => k (.bool v) []) (S.RingGrains w g a) :=
  (S.RingGrains_k w g a k).trans (by
      unfold S.RingGrains
      refine bif_lift (f := (oK (fun v : Bool => k (.bool v) []))) ?_ ?_
      · 
        exact rfl
      · 
        refine opt_lift fun o3 => ?_
        refine sumF_lift (f := (oK (fun v : Bool => k (.bool v) []))) (fun o4 => ?_) (fun o4 => ?_) _
        · 
          exact rfl
        · 
          refine opt_lift fun o5 => ?_
          refine bif_lift (f := (oK (fun v : Bool => k (.bool v) []))) ?_ ?_
          · 
            exact rfl
          · 
            refine opt_lift fun o7 => ?_
            refine bif_lift (f := (oK (fun v : Bool => k (.bool v) []))) ?_ ?_
            · 
              exact rfl
            · 
              refine bif_lift (f := (oK (fun v : Bool => k (.bool v) []))) ?_ ?_
              · 
                refine bif_lift (f := (oK (fun v : Bool => k (.bool v) []))) ?_ ?_
                · 
                  refine bif_lift (f := (oK (fun v : Bool => k (.bool v) []))) ?_ ?_
                  · 
                    refine bif_lift (f := (oK (fun v : Bool => k (.bool v) []))) ?_ ?_
                    · 
                      refine bif_lift (f := (oK (fun v : Bool => k (.bool v) []))) ?_ ?_
                      · 
                        refine bif_lift (f := (oK (fun v : Bool => k (.bool v) []))) ?_ ?_
                        · 
                          exact rfl
                        · 
                          exact rfl
                      · 
                        refine bif_lift (f := (oK (fun v : Bool => k (.bool v) []))) ?_ ?_
                        · 
                          refine bif_lift (f := (oK (fun v : Bool => k (.bool v) []))) ?_ ?_
                          · 
                            exact rfl
                          · 
                            exact rfl
                        · 
                          refine bif_lift (f := (oK (fun v : Bool => k (.bool v) []))) ?_ ?_
                          · 
                            refine bif_lift (f := (oK (fun v : Bool => k (.bool v) []))) ?_ ?_
                            · 
                              exact rfl
                            · 
                              exact rfl
                          · 
                            exact rfl
                    · 
                      exact rfl
                  · 
                    exact rfl
                · 
                  exact rfl
              · 
                exact rfl
      )
noncomputable def H9 : Hnd := fun R args σ k => match args, σ with
  | [.int .i64 w, .int .i64 g, .int .i64 a], [] => oK (fun v : Bool => k (.bool v) []) (S.RingGrains w g a)
  | _, _ => none
theorem H9_ok : HndOk Try.prog 9 H9 := hnd_ok tis tisOk mixOk G21s_ok F9 Try.func9 rfl (by
  intro R args σ k r h
  unfold H9 at h
  split at h
  · rename_i w g a; exact ⟨0, (S.RingGrains_v w g a _).trans h⟩
  · cases h)
noncomputable def G9 : Env := Env.add 9 H9 G21s
theorem G9_ok : EnvOk Try.prog G9 := envAdd_ok H9_ok G21s_ok
end Go.Proofs.Ytmgnfjiogfcieaa.AB
