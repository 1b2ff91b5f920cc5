/- ConfPer, as a plain function. -/
import Derived.Test.YtjbdlnomjkhhbaaSconf3z
namespace Go.Proofs.Ytjbdlnomjkhhbaa.AB
set_option linter.unusedVariables false

/-! spinnakerlaw3.ConfPer -/
def F10 : FCfg := ⟨keepAt [(0, [0, 1, 2, 3]), (1, [0, 1, 2, 3, 9, 10]), (2, [2, 3, 9, 10]), (3, [9, 10]), (4, [9, 10, 45]), (5, [8]), (6, [9, 10, 50]), (7, [9, 10]), (8, [9, 10, 61]), (9, [9, 10]), (10, [9, 10, 11]), (11, [9, 10, 11]), (12, [8])], loopAt [], []⟩
theorem S.ConfPer_k {R : Type} (a b x y : Int) (k : AVal → List Blk → Option R) : fnEval tis F10 0 G38s Try.f10 [.int .i64 a, .int .i64 b, .int .i64 x, .int .i64 y] [] k =
  (bif !S.q_may (Cf.mk (Go.IntKind.wrap .i64 (10 + Go.IntKind.wrap .i64 (Int.tmod (Go.IntKind.wrap .u64 a) 999991))) (Go.IntKind.wrap .i64 (100 + Go.IntKind.wrap .i64 (Int.tmod (Go.IntKind.wrap .u64 x) 901))) 60 6 1 2000 10000 2000 0 0 1 30 0 20000 10 100 60 3 0 0) then
    k (.bool false) ([])
  else
    bif !S.q_may (Cf.mk (Go.IntKind.wrap .i64 (10 + Go.IntKind.wrap .i64 (Int.tmod (Go.IntKind.wrap .u64 b) 999991))) (Go.IntKind.wrap .i64 (100 + Go.IntKind.wrap .i64 (Int.tmod (Go.IntKind.wrap .u64 y) 901))) 60 6 1 2000 10000 2000 0 0 1 30 0 20000 10 100 60 3 0 0) then
      k (.bool false) ([])
    else
      bif decide (Go.IntKind.wrap .i64 (10 + Go.IntKind.wrap .i64 (Int.tmod (Go.IntKind.wrap .u64 b) 999991)) < Go.IntKind.wrap .i64 (10 + Go.IntKind.wrap .i64 (Int.tmod (Go.IntKind.wrap .u64 a) 999991))) then
        bif decide (Go.IntKind.wrap .i64 (100 + Go.IntKind.wrap .i64 (Int.tmod (Go.IntKind.wrap .u64 y) 901)) < Go.IntKind.wrap .i64 (100 + Go.IntKind.wrap .i64 (Int.tmod (Go.IntKind.wrap .u64 x) 901))) then
          (optK (S.q_per (Cf.mk (Go.IntKind.wrap .i64 (10 + Go.IntKind.wrap .i64 (Int.tmod (Go.IntKind.wrap .u64 b) 999991))) (Go.IntKind.wrap .i64 (100 + Go.IntKind.wrap .i64 (Int.tmod (Go.IntKind.wrap .u64 y) 901))) 60 6 1 2000 10000 2000 0 0 1 30 0 20000 10 100 60 3 0 0)) fun o6 =>
            (optK (S.q_per (Cf.mk (Go.IntKind.wrap .i64 (10 + Go.IntKind.wrap .i64 (Int.tmod (Go.IntKind.wrap .u64 a) 999991))) (Go.IntKind.wrap .i64 (100 + Go.IntKind.wrap .i64 (Int.tmod (Go.IntKind.wrap .u64 x) 901))) 60 6 1 2000 10000 2000 0 0 1 30 0 20000 10 100 60 3 0 0)) fun o7 =>
              bif decide (o6 ≤ o7) then
                (optK (S.q_per (Cf.mk (Go.IntKind.wrap .i64 (10 + Go.IntKind.wrap .i64 (Int.tmod (Go.IntKind.wrap .u64 b) 999991))) 1000 60 6 1 2000 10000 2000 0 0 1 30 0 20000 10 100 60 3 0 0)) fun o9 =>
                  bif decide (o9 = Go.IntKind.wrap .i64 (10 + Go.IntKind.wrap .i64 (Int.tmod (Go.IntKind.wrap .u64 b) 999991))) then
                    (optK (S.q_per (Cf.mk 0 0 0 0 0 0 0 0 0 0 0 0 0 0 0 0 0 0 0 0)) fun o11 =>
                      k (.bool (decide (o11 = 1))) ([]))
                  else
                    k (.bool false) ([]))
              else
                k (.bool false) ([])))
        else
          (optK (S.q_per (Cf.mk (Go.IntKind.wrap .i64 (10 + Go.IntKind.wrap .i64 (Int.tmod (Go.IntKind.wrap .u64 b) 999991))) (Go.IntKind.wrap .i64 (100 + Go.IntKind.wrap .i64 (Int.tmod (Go.IntKind.wrap .u64 x) 901))) 60 6 1 2000 10000 2000 0 0 1 30 0 20000 10 100 60 3 0 0)) fun o6 =>
            (optK (S.q_per (Cf.mk (Go.IntKind.wrap .i64 (10 + Go.IntKind.wrap .i64 (Int.tmod (Go.IntKind.wrap .u64 a) 999991))) (Go.IntKind.wrap .i64 (100 + Go.IntKind.wrap .i64 (Int.tmod (Go.IntKind.wrap .u64 y) 901))) 60 6 1 2000 10000 2000 0 0 1 30 0 20000 10 100 60 3 0 0)) fun o7 =>
              bif decide (o6 ≤ o7) then
                (optK (S.q_per (Cf.mk (Go.IntKind.wrap .i64 (10 + Go.IntKind.wrap .i64 (Int.tmod (Go.IntKind.wrap .u64 b) 999991))) 1000 60 6 1 2000 10000 2000 0 0 1 30 0 20000 10 100 60 3 0 0)) fun o9 =>
                  bif decide (o9 = Go.IntKind.wrap .i64 (10 + Go.IntKind.wrap .i64 (Int.tmod (Go.IntKind.wrap .u64 b) 999991))) then
                    (optK (S.q_per (Cf.mk 0 0 0 0 0 0 0 0 0 0 0 0 0 0 0 0 0 0 0 0)) fun o11 =>
                      k (.bool (decide (o11 = 1))) ([]))
                  else
                    k (.bool false) ([]))
              else
                k (.bool false) ([])))
      else
        bif decide (Go.IntKind.wrap .i64 (100 + Go.IntKind.wrap .i64 (Int.tmod (Go.IntKind.wrap .u64 y) 901)) < Go.IntKind.wrap .i64 (100 + Go.IntKind.wrap .i64 (Int.tmod (Go.IntKind.wrap .u64 x) 901))) then
          (optK (S.q_per (Cf.mk (Go.IntKind.wrap .i64 (10 + Go.IntKind.wrap .i64 (Int.tmod (Go.IntKind.wrap .u64 a) 999991))) (Go.IntKind.wrap .i64 (100 + Go.IntKind.wrap .i64 (Int.tmod (Go.IntKind.wrap .u64 y) 901))) 60 6 1 2000 10000 2000 0 0 1 30 0 20000 10 100 60 3 0 0)) fun o6 =>
            (optK (S.q_per (Cf.mk (Go.IntKind.wrap .i64 (10 + Go.IntKind.wrap .i64 (Int.tmod (Go.IntKind.wrap .u64 b) 999991))) (Go.IntKind.wrap .i64 (100 + Go.IntKind.wrap .i64 (Int.tmod (Go.IntKind.wrap .u64 x) 901))) 60 6 1 2000 10000 2000 0 0 1 30 0 20000 10 100 60 3 0 0)) fun o7 =>
              bif decide (o6 ≤ o7) then
                (optK (S.q_per (Cf.mk (Go.IntKind.wrap .i64 (10 + Go.IntKind.wrap .i64 (Int.tmod (Go.IntKind.wrap .u64 a) 999991))) 1000 60 6 1 2000 10000 2000 0 0 1 30 0 20000 10 100 60 3 0 0)) fun o9 =>
                  bif decide (o9 = Go.IntKind.wrap .i64 (10 + Go.IntKind.wrap .i64 (Int.tmod (Go.IntKind.wrap .u64 a) 999991))) then
                    (optK (S.q_per (Cf.mk 0 0 0 0 0 0 0 0 0 0 0 0 0 0 0 0 0 0 0 0)) fun o11 =>
                      k (.bool (decide (o11 = 1))) ([]))
                  else
                    k (.bool false) ([]))
              else
                k (.bool false) ([])))
        else
          (optK (S.q_per (Cf.mk (Go.IntKind.wrap .i64 (10 + Go.IntKind.wrap .i64 (Int.tmod (Go.IntKind.wrap .u64 a) 999991))) (Go.IntKind.wrap .i64 (100 + Go.IntKind.wrap .i64 (Int.tmod (Go.IntKind.wrap .u64 x) 901))) 60 6 1 2000 10000 2000 0 0 1 30 0 20000 10 100 60 3 0 0)) fun o6 =>
            (optK (S.q_per (Cf.mk (Go.IntKind.wrap .i64 (10 + Go.IntKind.wrap .i64 (Int.tmod (Go.IntKind.wrap .u64 b) 999991))) (Go.IntKind.wrap .i64 (100 + Go.IntKind.wrap .i64 (Int.tmod (Go.IntKind.wrap .u64 y) 901))) 60 6 1 2000 10000 2000 0 0 1 30 0 20000 10 100 60 3 0 0)) fun o7 =>
              bif decide (o6 ≤ o7) then
                (optK (S.q_per (Cf.mk (Go.IntKind.wrap .i64 (10 + Go.IntKind.wrap .i64 (Int.tmod (Go.IntKind.wrap .u64 a) 999991))) 1000 60 6 1 2000 10000 2000 0 0 1 30 0 20000 10 100 60 3 0 0)) fun o9 =>
                  bif decide (o9 = Go.IntKind.wrap .i64 (10 + Go.IntKind.wrap .i64 (Int.tmod (Go.IntKind.wrap .u64 a) 999991))) then
                    (optK (S.q_per (Cf.mk 0 0 0 0 0 0 0 0 0 0 0 0 0 0 0 0 0 0 0 0)) fun o11 =>
                      k (.bool (decide (o11 = 1))) ([]))
                  else
                    k (.bool false) ([]))
              else
                k (.bool false) ([])))) := by kernel_rfl
noncomputable def S.ConfPer (a b x y : Int) : Option (Bool) :=
  bif !S.q_may (Cf.mk (Go.IntKind.wrap .i64 (10 + Go.IntKind.wrap .i64 (Int.tmod (Go.IntKind.wrap .u64 a) 999991))) (Go.IntKind.wrap .i64 (100 + Go.IntKind.wrap .i64 (Int.tmod (Go.IntKind.wrap .u64 x) 901))) 60 6 1 2000 10000 2000 0 0 1 30 0 20000 10 100 60 3 0 0) then
    some (false)
  else
    bif !S.q_may (Cf.mk (Go.IntKind.wrap .i64 (10 + Go.IntKind.wrap .i64 (Int.tmod (Go.IntKind.wrap .u64 b) 999991))) (Go.IntKind.wrap .i64 (100 + Go.IntKind.wrap .i64 (Int.tmod (Go.IntKind.wrap .u64 y) 901))) 60 6 1 2000 10000 2000 0 0 1 30 0 20000 10 100 60 3 0 0) then
      some (false)
    else
      bif decide (Go.IntKind.wrap .i64 (10 + Go.IntKind.wrap .i64 (Int.tmod (Go.IntKind.wrap .u64 b) 999991)) < Go.IntKind.wrap .i64 (10 + Go.IntKind.wrap .i64 (Int.tmod (Go.IntKind.wrap .u64 a) 999991))) then
        bif decide (Go.IntKind.wrap .i64 (100 + Go.IntKind.wrap .i64 (Int.tmod (Go.IntKind.wrap .u64 y) 901)) < Go.IntKind.wrap .i64 (100 + Go.IntKind.wrap .i64 (Int.tmod (Go.IntKind.wrap .u64 x) 901))) then
          (optK (S.q_per (Cf.mk (Go.IntKind.wrap .i64 (10 + Go.IntKind.wrap .i64 (Int.tmod (Go.IntKind.wrap .u64 b) 999991))) (Go.IntKind.wrap .i64 (100 + Go.IntKind.wrap .i64 (Int.tmod (Go.IntKind.wrap .u64 y) 901))) 60 6 1 2000 10000 2000 0 0 1 30 0 20000 10 100 60 3 0 0)) fun o6 =>
            (optK (S.q_per (Cf.mk (Go.IntKind.wrap .i64 (10 + Go.IntKind.wrap .i64 (Int.tmod (Go.IntKind.wrap .u64 a) 999991))) (Go.IntKind.wrap .i64 (100 + Go.IntKind.wrap .i64 (Int.tmod (Go.IntKind.wrap .u64 x) 901))) 60 6 1 2000 10000 2000 0 0 1 30 0 20000 10 100 60 3 0 0)) fun o7 =>
              bif decide (o6 ≤ o7) then
                (optK (S.q_per (Cf.mk (Go.IntKind.wrap .i64 (10 + Go.IntKind.wrap .i64 (Int.tmod (Go.IntKind.wrap .u64 b) 999991))) 1000 60 6 1 2000 10000 2000 0 0 1 30 0 20000 10 100 60 3 0 0)) fun o9 =>
                  bif decide (o9 = Go.IntKind.wrap .i64 (10 + Go.IntKind.wrap .i64 (Int.tmod (Go.IntKind.wrap .u64 b) 999991))) then
                    (optK (S.q_per (Cf.mk 0 0 0 0 0 0 0 0 0 0 0 0 0 0 0 0 0 0 0 0)) fun o11 =>
                      some (decide (o11 = 1)))
                  else
                    some (false))
              else
                some (false)))
        else
          (optK (S.q_per (Cf.mk (Go.IntKind.wrap .i64 (10 + Go.IntKind.wrap .i64 (Int.tmod (Go.IntKind.wrap .u64 b) 999991))) (Go.IntKind.wrap .i64 (100 + Go.IntKind.wrap .i64 (Int.tmod (Go.IntKind.wrap .u64 x) 901))) 60 6 1 2000 10000 2000 0 0 1 30 0 20000 10 100 60 3 0 0)) fun o6 =>
            (optK (S.q_per (Cf.mk (Go.IntKind.wrap .i64 (10 + Go.IntKind.wrap .i64 (Int.tmod (Go.IntKind.wrap .u64 a) 999991))) (Go.IntKind.wrap .i64 (100 + Go.IntKind.wrap .i64 (Int.tmod (Go.IntKind.wrap .u64 y) 901))) 60 6 1 2000 10000 2000 0 0 1 30 0 20000 10 100 60 3 0 0)) fun o7 =>
              bif decide (o6 ≤ o7) then
                (optK (S.q_per (Cf.mk (Go.IntKind.wrap .i64 (10 + Go.IntKind.wrap .i64 (Int.tmod (Go.IntKind.wrap .u64 b) 999991))) 1000 60 6 1 2000 10000 2000 0 0 1 30 0 20000 10 100 60 3 0 0)) fun o9 =>
                  bif decide (o9 = Go.IntKind.wrap .i64 (10 + Go.IntKind.wrap .i64 (Int.tmod (Go.IntKind.wrap .u64 b) 999991))) then
                    (optK (S.q_per (Cf.mk 0 0 0 0 0 0 0 0 0 0 0 0 0 0 0 0 0 0 0 0)) fun o11 =>
                      some (decide (o11 = 1)))
                  else
                    some (false))
              else
                some (false)))
      else
        bif decide (Go.IntKind.wrap .i64 (100 + Go.IntKind.wrap .i64 (Int.tmod (Go.IntKind.wrap .u64 y) 901)) < Go.IntKind.wrap .i64 (100 + Go.IntKind.wrap .i64 (Int.tmod (Go.IntKind.wrap .u64 x) 901))) then
          (optK (S.q_per (Cf.mk (Go.IntKind.wrap .i64 (10 + Go.IntKind.wrap .i64 (Int.tmod (Go.IntKind.wrap .u64 a) 999991))) (Go.IntKind.wrap .i64 (100 + Go.IntKind.wrap .i64 (Int.tmod (Go.IntKind.wrap .u64 y) 901))) 60 6 1 2000 10000 2000 0 0 1 30 0 20000 10 100 60 3 0 0)) fun o6 =>
            (optK (S.q_per (Cf.mk (Go.IntKind.wrap .i64 (10 + Go.IntKind.wrap .i64 (Int.tmod (Go.IntKind.wrap .u64 b) 999991))) (Go.IntKind.wrap .i64 (100 + Go.IntKind.wrap .i64 (Int.tmod (Go.IntKind.wrap .u64 x) 901))) 60 6 1 2000 10000 2000 0 0 1 30 0 20000 10 100 60 3 0 0)) fun o7 =>
              bif decide (o6 ≤ o7) then
                (optK (S.q_per (Cf.mk (Go.IntKind.wrap .i64 (10 + Go.IntKind.wrap .i64 (Int.tmod (Go.IntKind.wrap .u64 a) 999991))) 1000 60 6 1 2000 10000 2000 0 0 1 30 0 20000 10 100 60 3 0 0)) fun o9 =>
                  bif decide (o9 = Go.IntKind.wrap .i64 (10 + Go.IntKind.wrap .i64 (Int.tmod (Go.IntKind.wrap .u64 a) 999991))) then
                    (optK (S.q_per (Cf.mk 0 0 0 0 0 0 0 0 0 0 0 0 0 0 0 0 0 0 0 0)) fun o11 =>
                      some (decide (o11 = 1)))
                  else
                    some (false))
              else
                some (false)))
        else
          (optK (S.q_per (Cf.mk (Go.IntKind.wrap .i64 (10 + Go.IntKind.wrap .i64 (Int.tmod (Go.IntKind.wrap .u64 a) 999991))) (Go.IntKind.wrap .i64 (100 + Go.IntKind.wrap .i64 (Int.tmod (Go.IntKind.wrap .u64 x) 901))) 60 6 1 2000 10000 2000 0 0 1 30 0 20000 10 100 60 3 0 0)) fun o6 =>
            (optK (S.q_per (Cf.mk (Go.IntKind.wrap .i64 (10 + Go.IntKind.wrap .i64 (Int.tmod (Go.IntKind.wrap .u64 b) 999991))) (Go.IntKind.wrap .i64 (100 + Go.IntKind.wrap .i64 (Int.tmod (Go.IntKind.wrap .u64 y) 901))) 60 6 1 2000 10000 2000 0 0 1 30 0 20000 10 100 60 3 0 0)) fun o7 =>
              bif decide (o6 ≤ o7) then
                (optK (S.q_per (Cf.mk (Go.IntKind.wrap .i64 (10 + Go.IntKind.wrap .i64 (Int.tmod (Go.IntKind.wrap .u64 a) 999991))) 1000 60 6 1 2000 10000 2000 0 0 1 30 0 20000 10 100 60 3 0 0)) fun o9 =>
                  bif decide (o9 = Go.IntKind.wrap .i64 (10 + Go.IntKind.wrap .i64 (Int.tmod (Go.IntKind.wrap .u64 a) 999991))) then
                    (optK (S.q_per (Cf.mk 0 0 0 0 0 0 0 0 0 0 0 0 0 0 0 0 0 0 0 0)) fun o11 =>
                      some (decide (o11 = 1)))
                  else
                    some (false))
              else
                some (false)))
theorem S.ConfPer_v {R : Type} (a b x y : Int) (k : AVal → List Blk → Option R) : fnEval tis F10 0 G38s Try.f10 [.int .i64 a, .int .i64 b, .int .i64 x, .int .i64 y] [] k = oK (fun v : Bool => k (.bool v) []) (S.ConfPer a b x y) :=
  (S.ConfPer_k a b x y k).trans (bif_lift (f := (oK (fun v : Bool => k (.bool v) []))) rfl (bif_lift (f := (oK (fun v : Bool => k (.bool v) []))) rfl (bif_lift (f := (oK (fun v : Bool => k (.bool v) []))) (bif_lift (f := (oK (fun v : Bool => k (.bool v) []))) (opt_lift fun o6 => (opt_lift fun o7 => (bif_lift (f := (oK (fun v : Bool => k (.bool v) []))) (opt_lift fun o9 => (bif_lift (f := (oK (fun v : Bool => k (.bool v) []))) (opt_lift fun o11 => rfl) rfl)) rfl))) (opt_lift fun o6 => (opt_lift fun o7 => (bif_lift (f := (oK (fun v : Bool => k (.bool v) []))) (opt_lift fun o9 => (bif_lift (f := (oK (fun v : Bool => k (.bool v) []))) (opt_lift fun o11 => rfl) rfl)) rfl)))) (bif_lift (f := (oK (fun v : Bool => k (.bool v) []))) (opt_lift fun o6 => (opt_lift fun o7 => (bif_lift (f := (oK (fun v : Bool => k (.bool v) []))) (opt_lift fun o9 => (bif_lift (f := (oK (fun v : Bool => k (.bool v) []))) (opt_lift fun o11 => rfl) rfl)) rfl))) (opt_lift fun o6 => (opt_lift fun o7 => (bif_lift (f := (oK (fun v : Bool => k (.bool v) []))) (opt_lift fun o9 => (bif_lift (f := (oK (fun v : Bool => k (.bool v) []))) (opt_lift fun o11 => rfl) rfl)) rfl)))))))
noncomputable def H10 : Hnd := fun R args σ k => match args, σ with
  | [.int .i64 a, .int .i64 b, .int .i64 x, .int .i64 y], [] => oK (fun v : Bool => k (.bool v) []) (S.ConfPer a b x y)
  | _, _ => none
theorem H10_ok : HndOk Try.prog 10 H10 := hnd_ok tis tisOk mixOk G38s_ok F10 Try.func10 rfl (by
  intro R args σ k r h
  unfold H10 at h
  split at h
  · rename_i a b x y; exact ⟨0, (S.ConfPer_v a b x y _).trans h⟩
  · cases h)
noncomputable def G10 : Env := Env.add 10 H10 G38s
theorem G10_ok : EnvOk Try.prog G10 := envAdd_ok H10_ok G38s_ok
end Go.Proofs.Ytjbdlnomjkhhbaa.AB
