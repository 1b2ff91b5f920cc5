/- The laws of layer 1, as plain functions. -/
import Derived.Test.YtjbdlnomjkhhbaaSrmilli
namespace Go.Proofs.Ytjbdlnomjkhhbaa.AB
set_option linter.unusedVariables false

/-! spinnakerlaw1.told -/
def F16 : FCfg := ⟨keepAt [(0, []), (1, [1, 2]), (2, [1, 2, 3, 4]), (3, [1, 2, 3, 4, 5, 6]), (4, [1, 2, 3, 4, 5, 6, 7, 8]), (5, [1, 2, 3, 4, 5, 6, 7, 8, 9, 10]), (6, [1, 2, 3, 4, 5, 6, 7, 8, 9, 10, 12]), (7, [1, 2, 3, 4, 5, 6, 7, 8, 9, 10, 12, 13, 14]), (8, [1, 2, 3, 4, 5, 6, 7, 8, 9, 10, 12, 13, 14, 15, 16]), (9, [1, 2, 3, 4, 5, 6, 7, 8, 9, 10, 12, 13, 14, 15, 16, 17, 18]), (10, [1, 2, 3, 4, 5, 6, 7, 8, 9, 10, 12, 13, 14, 15, 16, 17, 18, 19, 20]), (11, [0])], loopAt [], []⟩
theorem S.told1_k {R : Type}  (k : AVal → List Blk → Option R) : fnEval tis F16 0 G27 Try.f16 [] [] k =
  (k (.bool true) ([])) := by kernel_rfl
noncomputable def S.told1  : Bool :=
  (true)
theorem S.told1_v {R : Type}  (k : AVal → List Blk → Option R) : fnEval tis F16 0 G27 Try.f16 [] [] k = k (.bool (S.told1)) [] :=
  (S.told1_k k).trans rfl
noncomputable def H16 : Hnd := fun R args σ k => match args, σ with
  | [], [] => k (.bool (S.told1)) []
  | _, _ => none
theorem H16_ok : HndOk Try.prog 16 H16 := hnd_ok tis tisOk mixOk G27_ok F16 Try.func16 rfl (by
  intro R args σ k r h
  unfold H16 at h
  split at h
  · exact ⟨0, (S.told1_v _).trans h⟩
  · cases h)
noncomputable def G16 : Env := Env.add 16 H16 G27
theorem G16_ok : EnvOk Try.prog G16 := envAdd_ok H16_ok G27_ok

/-! spinnakerlaw1.MilliParts -/
def F3 : FCfg := ⟨keepAt [(0, [0, 1, 2]), (1, [7, 8, 9]), (2, [7, 8, 9, 10, 11]), (3, [7, 8, 9, 10, 11, 12, 13]), (4, [10, 11, 12, 13, 14, 15]), (5, [6])], loopAt [], []⟩
theorem S.MilliParts_k {R : Type} (a b c : Int) (k : AVal → List Blk → Option R) : fnEval tis F3 0 G16 Try.f3 [.int .i64 a, .int .i64 b, .int .i64 c] [] k =
  ((optK (S.mmul (Int.tmod a 1000000) (Int.tmod c 1000000)) fun o2 =>
    (optK (S.mmul (Int.tmod b 1000000) (Int.tmod c 1000000)) fun o3 =>
      (optK (S.mmul (Go.IntKind.wrap .i64 (Int.tmod a 1000000 + Int.tmod b 1000000)) (Int.tmod c 1000000)) fun o4 =>
        bif decide (Go.IntKind.wrap .i64 (Go.IntKind.wrap .i64 (Prod.snd o2 + Prod.snd o3) + Prod.snd o4) = 0) then
          bif decide (0 ≤ Go.IntKind.wrap .i64 (Go.IntKind.wrap .i64 (Prod.fst o4 - Prod.fst o2) - Prod.fst o3)) then
            k (.bool (decide (Go.IntKind.wrap .i64 (Go.IntKind.wrap .i64 (Prod.fst o4 - Prod.fst o2) - Prod.fst o3) ≤ 1))) ([])
          else
            k (.bool false) ([])
        else
          k (.bool false) ([]))))) := by kernel_rfl
noncomputable def S.MilliParts (a b c : Int) : Option (Bool) :=
  (optK (S.mmul (Int.tmod a 1000000) (Int.tmod c 1000000)) fun o2 =>
    (optK (S.mmul (Int.tmod b 1000000) (Int.tmod c 1000000)) fun o3 =>
      (optK (S.mmul (Go.IntKind.wrap .i64 (Int.tmod a 1000000 + Int.tmod b 1000000)) (Int.tmod c 1000000)) fun o4 =>
        bif decide (Go.IntKind.wrap .i64 (Go.IntKind.wrap .i64 (Prod.snd o2 + Prod.snd o3) + Prod.snd o4) = 0) then
          bif decide (0 ≤ Go.IntKind.wrap .i64 (Go.IntKind.wrap .i64 (Prod.fst o4 - Prod.fst o2) - Prod.fst o3)) then
            some (decide (Go.IntKind.wrap .i64 (Go.IntKind.wrap .i64 (Prod.fst o4 - Prod.fst o2) - Prod.fst o3) ≤ 1))
          else
            some (false)
        else
          some (false))))
theorem S.MilliParts_v {R : Type} (a b c : Int) (k : AVal → List Blk → Option R) : fnEval tis F3 0 G16 Try.f3 [.int .i64 a, .int .i64 b, .int .i64 c] [] k = oK (fun v : Bool => k (.bool v) []) (S.MilliParts a b c) :=
  (S.MilliParts_k a b c k).trans (opt_lift fun o2 => (opt_lift fun o3 => (opt_lift fun o4 => (bif_lift (f := (oK (fun v : Bool => k (.bool v) []))) (bif_lift (f := (oK (fun v : Bool => k (.bool v) []))) rfl rfl) rfl))))
noncomputable def H3 : Hnd := fun R args σ k => match args, σ with
  | [.int .i64 a, .int .i64 b, .int .i64 c], [] => oK (fun v : Bool => k (.bool v) []) (S.MilliParts a b c)
  | _, _ => none
theorem H3_ok : HndOk Try.prog 3 H3 := hnd_ok tis tisOk mixOk G16_ok F3 Try.func3 rfl (by
  intro R args σ k r h
  unfold H3 at h
  split at h
  · rename_i a b c; exact ⟨0, (S.MilliParts_v a b c _).trans h⟩
  · cases h)
noncomputable def G3 : Env := Env.add 3 H3 G16
theorem G3_ok : EnvOk Try.prog G3 := envAdd_ok H3_ok G16_ok

/-! spinnakerlaw1.MilliAsks -/
def F4 : FCfg := ⟨keepAt [(0, [0, 1, 2, 3]), (1, [0, 1, 2, 3, 9, 10]), (2, [0, 1, 2, 3, 9, 10, 11, 12]), (3, [0, 1, 2, 3, 9, 10, 11, 12, 13, 14]), (4, [0, 1, 2, 3, 9, 10, 11, 12, 13, 14, 15, 16]), (5, [0, 1, 2, 3, 9, 10, 11, 12, 13, 14, 15, 16, 17, 18]), (6, [0, 1, 2, 3, 9, 10, 11, 12, 13, 14, 15, 16, 17, 18, 19, 20]), (7, [0, 1, 2, 3, 9, 10, 11, 12, 13, 14, 15, 16, 17, 18, 19, 20, 21, 22]), (8, [0, 1, 2, 3, 9, 10, 11, 12, 13, 14, 15, 16, 17, 18, 19, 20, 21, 22, 23, 24]), (9, [0, 1, 2, 3, 9, 10, 11, 12, 13, 14, 15, 16, 17, 18, 19, 20, 21, 22, 23, 24, 25, 26]), (10, [0, 2, 3, 9, 10, 11, 12, 13, 14, 15, 16, 17, 18, 19, 20, 21, 22, 23, 24, 25, 26, 27, 28]), (11, [8])], loopAt [], []⟩
theorem S.MilliAsks_k {R : Type} (a b lo hi : Int) (k : AVal → List Blk → Option R) : fnEval tis F4 0 G3 Try.f4 [.int .i64 a, .int .i64 b, .int .i64 lo, .int .i64 hi] [] k =
  ((optK (S.mmul a b) fun o2 =>
    (optK (S.mup a b) fun o3 =>
      (optK (S.rup a b) fun o4 =>
        (optK (S.mdown a b) fun o5 =>
          (optK (S.rdown a b) fun o6 =>
            bif decide (Prod.fst (S.madd a b) = Prod.fst (S.radd a b)) then
              bif decide (Prod.snd (S.madd a b) = Prod.snd (S.radd a b)) then
                bif decide (Prod.fst (S.msub a b) = Prod.fst (S.rsub a b)) then
                  bif decide (Prod.snd (S.msub a b) = Prod.snd (S.rsub a b)) then
                    bif decide (Prod.fst o2 = Prod.fst (S.rmul a b)) then
                      bif decide (Prod.snd o2 = Prod.snd (S.rmul a b)) then
                        bif decide (Prod.fst o3 = Prod.fst o4) then
                          bif decide (Prod.snd o3 = Prod.snd o4) then
                            bif decide (Prod.fst o5 = Prod.fst o6) then
                              bif decide (Prod.snd o5 = Prod.snd o6) then
                                k (.bool (decide (S.mclamp a lo hi = S.rclamp a lo hi))) ([])
                              else
                                k (.bool false) ([])
                            else
                              k (.bool false) ([])
                          else
                            k (.bool false) ([])
                        else
                          k (.bool false) ([])
                      else
                        k (.bool false) ([])
                    else
                      k (.bool false) ([])
                  else
                    k (.bool false) ([])
                else
                  k (.bool false) ([])
              else
                k (.bool false) ([])
            else
              k (.bool false) ([]))))))) := by kernel_rfl
noncomputable def S.MilliAsks (a b lo hi : Int) : Option (Bool) :=
  (optK (S.mmul a b) fun o2 =>
    (optK (S.mup a b) fun o3 =>
      (optK (S.rup a b) fun o4 =>
        (optK (S.mdown a b) fun o5 =>
          (optK (S.rdown a b) fun o6 =>
            bif decide (Prod.fst (S.madd a b) = Prod.fst (S.radd a b)) then
              bif decide (Prod.snd (S.madd a b) = Prod.snd (S.radd a b)) then
                bif decide (Prod.fst (S.msub a b) = Prod.fst (S.rsub a b)) then
                  bif decide (Prod.snd (S.msub a b) = Prod.snd (S.rsub a b)) then
                    bif decide (Prod.fst o2 = Prod.fst (S.rmul a b)) then
                      bif decide (Prod.snd o2 = Prod.snd (S.rmul a b)) then
                        bif decide (Prod.fst o3 = Prod.fst o4) then
                          bif decide (Prod.snd o3 = Prod.snd o4) then
                            bif decide (Prod.fst o5 = Prod.fst o6) then
                              bif decide (Prod.snd o5 = Prod.snd o6) then
                                some (decide (S.mclamp a lo hi = S.rclamp a lo hi))
                              else
                                some (false)
                            else
                              some (false)
                          else
                            some (false)
                        else
                          some (false)
                      else
                        some (false)
                    else
                      some (false)
                  else
                    some (false)
                else
                  some (false)
              else
                some (false)
            else
              some (false))))))
theorem S.MilliAsks_v {R : Type} (a b lo hi : Int) (k : AVal → List Blk → Option R) : fnEval tis F4 0 G3 Try.f4 [.int .i64 a, .int .i64 b, .int .i64 lo, .int .i64 hi] [] k = oK (fun v : Bool => k (.bool v) []) (S.MilliAsks a b lo hi) :=
  (S.MilliAsks_k a b lo hi k).trans (opt_lift fun o2 => (opt_lift fun o3 => (opt_lift fun o4 => (opt_lift fun o5 => (opt_lift fun o6 => (bif_lift (f := (oK (fun v : Bool => k (.bool v) []))) (bif_lift (f := (oK (fun v : Bool => k (.bool v) []))) (bif_lift (f := (oK (fun v : Bool => k (.bool v) []))) (bif_lift (f := (oK (fun v : Bool => k (.bool v) []))) (bif_lift (f := (oK (fun v : Bool => k (.bool v) []))) (bif_lift (f := (oK (fun v : Bool => k (.bool v) []))) (bif_lift (f := (oK (fun v : Bool => k (.bool v) []))) (bif_lift (f := (oK (fun v : Bool => k (.bool v) []))) (bif_lift (f := (oK (fun v : Bool => k (.bool v) []))) (bif_lift (f := (oK (fun v : Bool => k (.bool v) []))) rfl rfl) rfl) rfl) rfl) rfl) rfl) rfl) rfl) rfl) rfl))))))
noncomputable def H4 : Hnd := fun R args σ k => match args, σ with
  | [.int .i64 a, .int .i64 b, .int .i64 lo, .int .i64 hi], [] => oK (fun v : Bool => k (.bool v) []) (S.MilliAsks a b lo hi)
  | _, _ => none
theorem H4_ok : HndOk Try.prog 4 H4 := hnd_ok tis tisOk mixOk G3_ok F4 Try.func4 rfl (by
  intro R args σ k r h
  unfold H4 at h
  split at h
  · rename_i a b lo hi; exact ⟨0, (S.MilliAsks_v a b lo hi _).trans h⟩
  · cases h)
noncomputable def G4 : Env := Env.add 4 H4 G3
theorem G4_ok : EnvOk Try.prog G4 := envAdd_ok H4_ok G3_ok

/-! spinnakerlaw1.MilliSmall -/
def F5 : FCfg := ⟨keepAt [(0, [0, 1]), (1, [5, 6]), (2, [5, 6, 7, 8]), (3, [5, 6, 7, 8, 9, 10]), (4, [5, 6, 7, 8, 9, 10, 11, 12]), (5, [5, 6, 7, 8, 9, 10, 12, 13]), (6, [5, 6, 75]), (7, [4]), (8, [5, 6, 77]), (9, [4]), (10, [5, 6, 14, 15]), (11, [5, 6, 14, 15, 16, 17]), (12, [4])], loopAt [], []⟩
theorem S.MilliSmall_k {R : Type} (a b : Int) (k : AVal → List Blk → Option R) : fnEval tis F5 0 G4 Try.f5 [.int .i64 a, .int .i64 b] [] k =
  ((optK (S.mmul (Int.tmod a 1000000000) (Int.tmod b 1000000000)) fun o2 =>
    bif !decide (Prod.snd (S.madd (Int.tmod a 1000000000) (Int.tmod b 1000000000)) = 0) then
      k (.bool false) ([])
    else
      bif !decide (Prod.snd (S.msub (Prod.fst (S.madd (Int.tmod a 1000000000) (Int.tmod b 1000000000))) (Int.tmod b 1000000000)) = 0) then
        k (.bool false) ([])
      else
        bif !decide (Prod.snd o2 = 0) then
          k (.bool false) ([])
        else
          bif !decide (Prod.fst (S.madd (Int.tmod a 1000000000) (Int.tmod b 1000000000)) = Go.IntKind.wrap .i64 (Int.tmod a 1000000000 + Int.tmod b 1000000000)) then
            k (.bool false) ([])
          else
            bif !decide (Prod.fst (S.msub (Prod.fst (S.madd (Int.tmod a 1000000000) (Int.tmod b 1000000000))) (Int.tmod b 1000000000)) = Int.tmod a 1000000000) then
              k (.bool false) ([])
            else
              bif decide (Go.IntKind.wrap .i64 (Go.IntKind.wrap .i64 (Int.tmod a 1000000000 * Int.tmod b 1000000000) - Go.IntKind.wrap .i64 (Prod.fst o2 * 1000)) < 0) then
                k (.bool false) ([])
              else
                bif decide (999 < Go.IntKind.wrap .i64 (Go.IntKind.wrap .i64 (Int.tmod a 1000000000 * Int.tmod b 1000000000) - Go.IntKind.wrap .i64 (Prod.fst o2 * 1000))) then
                  k (.bool false) ([])
                else
                  bif decide (Int.tmod b 1000000000 = 0) then
                    k (.bool true) ([])
                  else
                    (optK (S.mup (Int.tmod a 1000000000) (Int.tmod b 1000000000)) fun o11 =>
                      (optK (S.mdown (Int.tmod a 1000000000) (Int.tmod b 1000000000)) fun o12 =>
                        bif decide (Prod.snd o11 = 0) then
                          bif decide (Prod.snd o12 = 0) then
                            bif decide (0 ≤ Go.IntKind.wrap .i64 (Prod.fst o11 - Prod.fst o12)) then
                              bif decide (Go.IntKind.wrap .i64 (Prod.fst o11 - Prod.fst o12) ≤ 1) then
                                bif decide (Int.tmod b 1000000000 = 0) then
                                  none
                                else
                                  bif decide (Prod.fst o11 = Prod.fst o12) == decide (Int.tmod (Int.tmod a 1000000000) (Int.tmod b 1000000000) = 0) then
                                    bif decide (0 < Int.tmod b 1000000000) then
                                      bif decide (Int.tmod a 1000000000 ≤ Go.IntKind.wrap .i64 (Prod.fst o11 * Int.tmod b 1000000000)) then
                                        bif decide (Go.IntKind.wrap .i64 (Prod.fst o12 * Int.tmod b 1000000000) ≤ Int.tmod a 1000000000) then
                                          k (.bool true) ([])
                                        else
                                          bif decide (Int.tmod b 1000000000 < 0) then
                                            bif decide (Go.IntKind.wrap .i64 (Prod.fst o11 * Int.tmod b 1000000000) ≤ Int.tmod a 1000000000) then
                                              k (.bool (decide (Int.tmod a 1000000000 ≤ Go.IntKind.wrap .i64 (Prod.fst o12 * Int.tmod b 1000000000)))) ([])
                                            else
                                              k (.bool false) ([])
                                          else
                                            k (.bool false) ([])
                                      else
                                        bif decide (Int.tmod b 1000000000 < 0) then
                                          bif decide (Go.IntKind.wrap .i64 (Prod.fst o11 * Int.tmod b 1000000000) ≤ Int.tmod a 1000000000) then
                                            k (.bool (decide (Int.tmod a 1000000000 ≤ Go.IntKind.wrap .i64 (Prod.fst o12 * Int.tmod b 1000000000)))) ([])
                                          else
                                            k (.bool false) ([])
                                        else
                                          k (.bool false) ([])
                                    else
                                      bif decide (Int.tmod b 1000000000 < 0) then
                                        bif decide (Go.IntKind.wrap .i64 (Prod.fst o11 * Int.tmod b 1000000000) ≤ Int.tmod a 1000000000) then
                                          k (.bool (decide (Int.tmod a 1000000000 ≤ Go.IntKind.wrap .i64 (Prod.fst o12 * Int.tmod b 1000000000)))) ([])
                                        else
                                          k (.bool false) ([])
                                      else
                                        k (.bool false) ([])
                                  else
                                    k (.bool false) ([])
                              else
                                k (.bool false) ([])
                            else
                              k (.bool false) ([])
                          else
                            k (.bool false) ([])
                        else
                          k (.bool false) ([]))))) := by kernel_rfl
noncomputable def S.MilliSmall (a b : Int) : Option (Bool) :=
  (optK (S.mmul (Int.tmod a 1000000000) (Int.tmod b 1000000000)) fun o2 =>
    bif !decide (Prod.snd (S.madd (Int.tmod a 1000000000) (Int.tmod b 1000000000)) = 0) then
      some (false)
    else
      bif !decide (Prod.snd (S.msub (Prod.fst (S.madd (Int.tmod a 1000000000) (Int.tmod b 1000000000))) (Int.tmod b 1000000000)) = 0) then
        some (false)
      else
        bif !decide (Prod.snd o2 = 0) then
          some (false)
        else
          bif !decide (Prod.fst (S.madd (Int.tmod a 1000000000) (Int.tmod b 1000000000)) = Go.IntKind.wrap .i64 (Int.tmod a 1000000000 + Int.tmod b 1000000000)) then
            some (false)
          else
            bif !decide (Prod.fst (S.msub (Prod.fst (S.madd (Int.tmod a 1000000000) (Int.tmod b 1000000000))) (Int.tmod b 1000000000)) = Int.tmod a 1000000000) then
              some (false)
            else
              bif decide (Go.IntKind.wrap .i64 (Go.IntKind.wrap .i64 (Int.tmod a 1000000000 * Int.tmod b 1000000000) - Go.IntKind.wrap .i64 (Prod.fst o2 * 1000)) < 0) then
                some (false)
              else
                bif decide (999 < Go.IntKind.wrap .i64 (Go.IntKind.wrap .i64 (Int.tmod a 1000000000 * Int.tmod b 1000000000) - Go.IntKind.wrap .i64 (Prod.fst o2 * 1000))) then
                  some (false)
                else
                  bif decide (Int.tmod b 1000000000 = 0) then
                    some (true)
                  else
                    (optK (S.mup (Int.tmod a 1000000000) (Int.tmod b 1000000000)) fun o11 =>
                      (optK (S.mdown (Int.tmod a 1000000000) (Int.tmod b 1000000000)) fun o12 =>
                        bif decide (Prod.snd o11 = 0) then
                          bif decide (Prod.snd o12 = 0) then
                            bif decide (0 ≤ Go.IntKind.wrap .i64 (Prod.fst o11 - Prod.fst o12)) then
                              bif decide (Go.IntKind.wrap .i64 (Prod.fst o11 - Prod.fst o12) ≤ 1) then
                                bif decide (Int.tmod b 1000000000 = 0) then
                                  none
                                else
                                  bif decide (Prod.fst o11 = Prod.fst o12) == decide (Int.tmod (Int.tmod a 1000000000) (Int.tmod b 1000000000) = 0) then
                                    bif decide (0 < Int.tmod b 1000000000) then
                                      bif decide (Int.tmod a 1000000000 ≤ Go.IntKind.wrap .i64 (Prod.fst o11 * Int.tmod b 1000000000)) then
                                        bif decide (Go.IntKind.wrap .i64 (Prod.fst o12 * Int.tmod b 1000000000) ≤ Int.tmod a 1000000000) then
                                          some (true)
                                        else
                                          bif decide (Int.tmod b 1000000000 < 0) then
                                            bif decide (Go.IntKind.wrap .i64 (Prod.fst o11 * Int.tmod b 1000000000) ≤ Int.tmod a 1000000000) then
                                              some (decide (Int.tmod a 1000000000 ≤ Go.IntKind.wrap .i64 (Prod.fst o12 * Int.tmod b 1000000000)))
                                            else
                                              some (false)
                                          else
                                            some (false)
                                      else
                                        bif decide (Int.tmod b 1000000000 < 0) then
                                          bif decide (Go.IntKind.wrap .i64 (Prod.fst o11 * Int.tmod b 1000000000) ≤ Int.tmod a 1000000000) then
                                            some (decide (Int.tmod a 1000000000 ≤ Go.IntKind.wrap .i64 (Prod.fst o12 * Int.tmod b 1000000000)))
                                          else
                                            some (false)
                                        else
                                          some (false)
                                    else
                                      bif decide (Int.tmod b 1000000000 < 0) then
                                        bif decide (Go.IntKind.wrap .i64 (Prod.fst o11 * Int.tmod b 1000000000) ≤ Int.tmod a 1000000000) then
                                          some (decide (Int.tmod a 1000000000 ≤ Go.IntKind.wrap .i64 (Prod.fst o12 * Int.tmod b 1000000000)))
                                        else
                                          some (false)
                                      else
                                        some (false)
                                  else
                                    some (false)
                              else
                                some (false)
                            else
                              some (false)
                          else
                            some (false)
                        else
                          some (false))))
theorem S.MilliSmall_v {R : Type} (a b : Int) (k : AVal → List Blk → Option R) : fnEval tis F5 0 G4 Try.f5 [.int .i64 a, .int .i64 b] [] k = oK (fun v : Bool => k (.bool v) []) (S.MilliSmall a b) :=
  (S.MilliSmall_k a b k).trans (opt_lift fun o2 => (bif_lift (f := (oK (fun v : Bool => k (.bool v) []))) rfl (bif_lift (f := (oK (fun v : Bool => k (.bool v) []))) rfl (bif_lift (f := (oK (fun v : Bool => k (.bool v) []))) rfl (bif_lift (f := (oK (fun v : Bool => k (.bool v) []))) rfl (bif_lift (f := (oK (fun v : Bool => k (.bool v) []))) rfl (bif_lift (f := (oK (fun v : Bool => k (.bool v) []))) rfl (bif_lift (f := (oK (fun v : Bool => k (.bool v) []))) rfl (bif_lift (f := (oK (fun v : Bool => k (.bool v) []))) rfl (opt_lift fun o11 => (opt_lift fun o12 => (bif_lift (f := (oK (fun v : Bool => k (.bool v) []))) (bif_lift (f := (oK (fun v : Bool => k (.bool v) []))) (bif_lift (f := (oK (fun v : Bool => k (.bool v) []))) (bif_lift (f := (oK (fun v : Bool => k (.bool v) []))) (bif_lift (f := (oK (fun v : Bool => k (.bool v) []))) rfl (bif_lift (f := (oK (fun v : Bool => k (.bool v) []))) (bif_lift (f := (oK (fun v : Bool => k (.bool v) []))) (bif_lift (f := (oK (fun v : Bool => k (.bool v) []))) (bif_lift (f := (oK (fun v : Bool => k (.bool v) []))) rfl (bif_lift (f := (oK (fun v : Bool => k (.bool v) []))) (bif_lift (f := (oK (fun v : Bool => k (.bool v) []))) rfl rfl) rfl)) (bif_lift (f := (oK (fun v : Bool => k (.bool v) []))) (bif_lift (f := (oK (fun v : Bool => k (.bool v) []))) rfl rfl) rfl)) (bif_lift (f := (oK (fun v : Bool => k (.bool v) []))) (bif_lift (f := (oK (fun v : Bool => k (.bool v) []))) rfl rfl) rfl)) rfl)) rfl) rfl) rfl) rfl))))))))))))
noncomputable def H5 : Hnd := fun R args σ k => match args, σ with
  | [.int .i64 a, .int .i64 b], [] => oK (fun v : Bool => k (.bool v) []) (S.MilliSmall a b)
  | _, _ => none
theorem H5_ok : HndOk Try.prog 5 H5 := hnd_ok tis tisOk mixOk G4_ok F5 Try.func5 rfl (by
  intro R args σ k r h
  unfold H5 at h
  split at h
  · rename_i a b; exact ⟨0, (S.MilliSmall_v a b _).trans h⟩
  · cases h)
noncomputable def G5 : Env := Env.add 5 H5 G4
theorem G5_ok : EnvOk Try.prog G5 := envAdd_ok H5_ok G4_ok

/-! spinnakerlaw1.MilliOrders -/
def F6 : FCfg := ⟨keepAt [(0, [0, 1]), (1, [0, 1, 5, 6]), (2, [0, 1, 5, 6, 7, 8]), (3, [0, 1, 5, 6, 7, 8, 9, 10]), (4, [0, 1, 5, 6, 7, 8, 9, 10, 11, 12]), (5, [0, 1, 5, 6, 9, 10, 56]), (6, [4]), (7, [0, 1, 5, 6, 9, 10, 13, 14]), (8, [4])], loopAt [], []⟩
theorem S.MilliOrders_k {R : Type} (a b : Int) (k : AVal → List Blk → Option R) : fnEval tis F6 0 G5 Try.f6 [.int .i64 a, .int .i64 b] [] k =
  ((optK (S.mmul a b) fun o2 =>
    (optK (S.mmul b a) fun o3 =>
      bif !decide (Prod.fst (S.madd a b) = Prod.fst (S.madd b a)) then
        k (.bool false) ([])
      else
        bif !decide (Prod.snd (S.madd a b) = Prod.snd (S.madd b a)) then
          k (.bool false) ([])
        else
          bif !decide (Prod.fst o2 = Prod.fst o3) then
            k (.bool false) ([])
          else
            bif !decide (Prod.snd o2 = Prod.snd o3) then
              k (.bool false) ([])
            else
              bif decide (Prod.snd (S.madd a b) = 0) then
                bif decide (Prod.snd o2 = 0) then
                  k (.bool true) ([])
                else
                  bif decide (Prod.fst o2 = 9223372036854775807) then
                    bif decide (0 < a) == decide (0 < b) then
                      k (.bool true) ([])
                    else
                      bif decide (Prod.fst o2 = -9223372036854775808) then
                        k (.bool !decide (0 < a) == decide (0 < b)) ([])
                      else
                        k (.bool false) ([])
                  else
                    bif decide (Prod.fst o2 = -9223372036854775808) then
                      k (.bool !decide (0 < a) == decide (0 < b)) ([])
                    else
                      k (.bool false) ([])
              else
                bif decide (Prod.fst (S.madd a b) = 9223372036854775807) then
                  bif decide (0 < a) then
                    bif decide (0 < b) then
                      bif decide (Prod.snd o2 = 0) then
                        k (.bool true) ([])
                      else
                        bif decide (Prod.fst o2 = 9223372036854775807) then
                          bif decide (0 < a) == decide (0 < b) then
                            k (.bool true) ([])
                          else
                            bif decide (Prod.fst o2 = -9223372036854775808) then
                              k (.bool !decide (0 < a) == decide (0 < b)) ([])
                            else
                              k (.bool false) ([])
                        else
                          bif decide (Prod.fst o2 = -9223372036854775808) then
                            k (.bool !decide (0 < a) == decide (0 < b)) ([])
                          else
                            k (.bool false) ([])
                    else
                      bif decide (Prod.fst (S.madd a b) = -9223372036854775808) then
                        bif decide (a < 0) then
                          bif decide (b < 0) then
                            bif decide (Prod.snd o2 = 0) then
                              k (.bool true) ([])
                            else
                              bif decide (Prod.fst o2 = 9223372036854775807) then
                                bif decide (0 < a) == decide (0 < b) then
                                  k (.bool true) ([])
                                else
                                  bif decide (Prod.fst o2 = -9223372036854775808) then
                                    k (.bool !decide (0 < a) == decide (0 < b)) ([])
                                  else
                                    k (.bool false) ([])
                              else
                                bif decide (Prod.fst o2 = -9223372036854775808) then
                                  k (.bool !decide (0 < a) == decide (0 < b)) ([])
                                else
                                  k (.bool false) ([])
                          else
                            k (.bool false) ([])
                        else
                          k (.bool false) ([])
                      else
                        k (.bool false) ([])
                  else
                    bif decide (Prod.fst (S.madd a b) = -9223372036854775808) then
                      bif decide (a < 0) then
                        bif decide (b < 0) then
                          bif decide (Prod.snd o2 = 0) then
                            k (.bool true) ([])
                          else
                            bif decide (Prod.fst o2 = 9223372036854775807) then
                              bif decide (0 < a) == decide (0 < b) then
                                k (.bool true) ([])
                              else
                                bif decide (Prod.fst o2 = -9223372036854775808) then
                                  k (.bool !decide (0 < a) == decide (0 < b)) ([])
                                else
                                  k (.bool false) ([])
                            else
                              bif decide (Prod.fst o2 = -9223372036854775808) then
                                k (.bool !decide (0 < a) == decide (0 < b)) ([])
                              else
                                k (.bool false) ([])
                        else
                          k (.bool false) ([])
                      else
                        k (.bool false) ([])
                    else
                      k (.bool false) ([])
                else
                  bif decide (Prod.fst (S.madd a b) = -9223372036854775808) then
                    bif decide (a < 0) then
                      bif decide (b < 0) then
                        bif decide (Prod.snd o2 = 0) then
                          k (.bool true) ([])
                        else
                          bif decide (Prod.fst o2 = 9223372036854775807) then
                            bif decide (0 < a) == decide (0 < b) then
                              k (.bool true) ([])
                            else
                              bif decide (Prod.fst o2 = -9223372036854775808) then
                                k (.bool !decide (0 < a) == decide (0 < b)) ([])
                              else
                                k (.bool false) ([])
                          else
                            bif decide (Prod.fst o2 = -9223372036854775808) then
                              k (.bool !decide (0 < a) == decide (0 < b)) ([])
                            else
                              k (.bool false) ([])
                      else
                        k (.bool false) ([])
                    else
                      k (.bool false) ([])
                  else
                    k (.bool false) ([])))) := by kernel_rfl
noncomputable def S.MilliOrders (a b : Int) : Option (Bool) :=
  (optK (S.mmul a b) fun o2 =>
    (optK (S.mmul b a) fun o3 =>
      bif !decide (Prod.fst (S.madd a b) = Prod.fst (S.madd b a)) then
        some (false)
      else
        bif !decide (Prod.snd (S.madd a b) = Prod.snd (S.madd b a)) then
          some (false)
        else
          bif !decide (Prod.fst o2 = Prod.fst o3) then
            some (false)
          else
            bif !decide (Prod.snd o2 = Prod.snd o3) then
              some (false)
            else
              bif decide (Prod.snd (S.madd a b) = 0) then
                bif decide (Prod.snd o2 = 0) then
                  some (true)
                else
                  bif decide (Prod.fst o2 = 9223372036854775807) then
                    bif decide (0 < a) == decide (0 < b) then
                      some (true)
                    else
                      bif decide (Prod.fst o2 = -9223372036854775808) then
                        some (!decide (0 < a) == decide (0 < b))
                      else
                        some (false)
                  else
                    bif decide (Prod.fst o2 = -9223372036854775808) then
                      some (!decide (0 < a) == decide (0 < b))
                    else
                      some (false)
              else
                bif decide (Prod.fst (S.madd a b) = 9223372036854775807) then
                  bif decide (0 < a) then
                    bif decide (0 < b) then
                      bif decide (Prod.snd o2 = 0) then
                        some (true)
                      else
                        bif decide (Prod.fst o2 = 9223372036854775807) then
                          bif decide (0 < a) == decide (0 < b) then
                            some (true)
                          else
                            bif decide (Prod.fst o2 = -9223372036854775808) then
                              some (!decide (0 < a) == decide (0 < b))
                            else
                              some (false)
                        else
                          bif decide (Prod.fst o2 = -9223372036854775808) then
                            some (!decide (0 < a) == decide (0 < b))
                          else
                            some (false)
                    else
                      bif decide (Prod.fst (S.madd a b) = -9223372036854775808) then
                        bif decide (a < 0) then
                          bif decide (b < 0) then
                            bif decide (Prod.snd o2 = 0) then
                              some (true)
                            else
                              bif decide (Prod.fst o2 = 9223372036854775807) then
                                bif decide (0 < a) == decide (0 < b) then
                                  some (true)
                                else
                                  bif decide (Prod.fst o2 = -9223372036854775808) then
                                    some (!decide (0 < a) == decide (0 < b))
                                  else
                                    some (false)
                              else
                                bif decide (Prod.fst o2 = -9223372036854775808) then
                                  some (!decide (0 < a) == decide (0 < b))
                                else
                                  some (false)
                          else
                            some (false)
                        else
                          some (false)
                      else
                        some (false)
                  else
                    bif decide (Prod.fst (S.madd a b) = -9223372036854775808) then
                      bif decide (a < 0) then
                        bif decide (b < 0) then
                          bif decide (Prod.snd o2 = 0) then
                            some (true)
                          else
                            bif decide (Prod.fst o2 = 9223372036854775807) then
                              bif decide (0 < a) == decide (0 < b) then
                                some (true)
                              else
                                bif decide (Prod.fst o2 = -9223372036854775808) then
                                  some (!decide (0 < a) == decide (0 < b))
                                else
                                  some (false)
                            else
                              bif decide (Prod.fst o2 = -9223372036854775808) then
                                some (!decide (0 < a) == decide (0 < b))
                              else
                                some (false)
                        else
                          some (false)
                      else
                        some (false)
                    else
                      some (false)
                else
                  bif decide (Prod.fst (S.madd a b) = -9223372036854775808) then
                    bif decide (a < 0) then
                      bif decide (b < 0) then
                        bif decide (Prod.snd o2 = 0) then
                          some (true)
                        else
                          bif decide (Prod.fst o2 = 9223372036854775807) then
                            bif decide (0 < a) == decide (0 < b) then
                              some (true)
                            else
                              bif decide (Prod.fst o2 = -9223372036854775808) then
                                some (!decide (0 < a) == decide (0 < b))
                              else
                                some (false)
                          else
                            bif decide (Prod.fst o2 = -9223372036854775808) then
                              some (!decide (0 < a) == decide (0 < b))
                            else
                              some (false)
                      else
                        some (false)
                    else
                      some (false)
                  else
                    some (false)))
theorem S.MilliOrders_v {R : Type} (a b : Int) (k : AVal → List Blk → Option R) : fnEval tis F6 0 G5 Try.f6 [.int .i64 a, .int .i64 b] [] k = oK (fun v : Bool => k (.bool v) []) (S.MilliOrders a b) :=
  (S.MilliOrders_k a b k).trans (opt_lift fun o2 => (opt_lift fun o3 => (bif_lift (f := (oK (fun v : Bool => k (.bool v) []))) rfl (bif_lift (f := (oK (fun v : Bool => k (.bool v) []))) rfl (bif_lift (f := (oK (fun v : Bool => k (.bool v) []))) rfl (bif_lift (f := (oK (fun v : Bool => k (.bool v) []))) rfl (bif_lift (f := (oK (fun v : Bool => k (.bool v) []))) (bif_lift (f := (oK (fun v : Bool => k (.bool v) []))) rfl (bif_lift (f := (oK (fun v : Bool => k (.bool v) []))) (bif_lift (f := (oK (fun v : Bool => k (.bool v) []))) rfl (bif_lift (f := (oK (fun v : Bool => k (.bool v) []))) rfl rfl)) (bif_lift (f := (oK (fun v : Bool => k (.bool v) []))) rfl rfl))) (bif_lift (f := (oK (fun v : Bool => k (.bool v) []))) (bif_lift (f := (oK (fun v : Bool => k (.bool v) []))) (bif_lift (f := (oK (fun v : Bool => k (.bool v) []))) (bif_lift (f := (oK (fun v : Bool => k (.bool v) []))) rfl (bif_lift (f := (oK (fun v : Bool => k (.bool v) []))) (bif_lift (f := (oK (fun v : Bool => k (.bool v) []))) rfl (bif_lift (f := (oK (fun v : Bool => k (.bool v) []))) rfl rfl)) (bif_lift (f := (oK (fun v : Bool => k (.bool v) []))) rfl rfl))) (bif_lift (f := (oK (fun v : Bool => k (.bool v) []))) (bif_lift (f := (oK (fun v : Bool => k (.bool v) []))) (bif_lift (f := (oK (fun v : Bool => k (.bool v) []))) (bif_lift (f := (oK (fun v : Bool => k (.bool v) []))) rfl (bif_lift (f := (oK (fun v : Bool => k (.bool v) []))) (bif_lift (f := (oK (fun v : Bool => k (.bool v) []))) rfl (bif_lift (f := (oK (fun v : Bool => k (.bool v) []))) rfl rfl)) (bif_lift (f := (oK (fun v : Bool => k (.bool v) []))) rfl rfl))) rfl) rfl) rfl)) (bif_lift (f := (oK (fun v : Bool => k (.bool v) []))) (bif_lift (f := (oK (fun v : Bool => k (.bool v) []))) (bif_lift (f := (oK (fun v : Bool => k (.bool v) []))) (bif_lift (f := (oK (fun v : Bool => k (.bool v) []))) rfl (bif_lift (f := (oK (fun v : Bool => k (.bool v) []))) (bif_lift (f := (oK (fun v : Bool => k (.bool v) []))) rfl (bif_lift (f := (oK (fun v : Bool => k (.bool v) []))) rfl rfl)) (bif_lift (f := (oK (fun v : Bool => k (.bool v) []))) rfl rfl))) rfl) rfl) rfl)) (bif_lift (f := (oK (fun v : Bool => k (.bool v) []))) (bif_lift (f := (oK (fun v : Bool => k (.bool v) []))) (bif_lift (f := (oK (fun v : Bool => k (.bool v) []))) (bif_lift (f := (oK (fun v : Bool => k (.bool v) []))) rfl (bif_lift (f := (oK (fun v : Bool => k (.bool v) []))) (bif_lift (f := (oK (fun v : Bool => k (.bool v) []))) rfl (bif_lift (f := (oK (fun v : Bool => k (.bool v) []))) rfl rfl)) (bif_lift (f := (oK (fun v : Bool => k (.bool v) []))) rfl rfl))) rfl) rfl) rfl)))))))))
noncomputable def H6 : Hnd := fun R args σ k => match args, σ with
  | [.int .i64 a, .int .i64 b], [] => oK (fun v : Bool => k (.bool v) []) (S.MilliOrders a b)
  | _, _ => none
theorem H6_ok : HndOk Try.prog 6 H6 := hnd_ok tis tisOk mixOk G5_ok F6 Try.func6 rfl (by
  intro R args σ k r h
  unfold H6 at h
  split at h
  · rename_i a b; exact ⟨0, (S.MilliOrders_v a b _).trans h⟩
  · cases h)
noncomputable def G6 : Env := Env.add 6 H6 G5
theorem G6_ok : EnvOk Try.prog G6 := envAdd_ok H6_ok G5_ok

/-! spinnakerlaw1.MilliBack -/
def F7 : FCfg := ⟨keepAt [(0, [0, 1]), (1, [0, 1, 5, 6]), (2, [0, 1, 5, 26]), (3, [0, 7, 8]), (4, [0, 39]), (5, [4]), (6, [0, 9, 10]), (7, [0, 51]), (8, [4]), (9, [0, 11, 12]), (10, [0, 11, 12, 13, 14]), (11, [0, 77]), (12, [4]), (13, [0, 79]), (14, [4]), (15, [0, 15, 16]), (16, [15, 16, 17, 18]), (17, [4])], loopAt [], []⟩
theorem S.MilliBack_k {R : Type} (a b : Int) (k : AVal → List Blk → Option R) : fnEval tis F7 0 G6 Try.f7 [.int .i64 a, .int .i64 b] [] k =
  (bif decide (Prod.snd (S.madd a b) = 0) then
    bif !decide (Prod.snd (S.msub (Prod.fst (S.madd a b)) b) = 0) then
      k (.bool false) ([])
    else
      bif !decide (Prod.fst (S.msub (Prod.fst (S.madd a b)) b) = a) then
        k (.bool false) ([])
      else
        (optK (S.mmul a 1000) fun o5 =>
          bif !decide (Prod.snd o5 = 0) then
            k (.bool false) ([])
          else
            bif !decide (Prod.fst o5 = a) then
              k (.bool false) ([])
            else
              (optK (S.mup a 1) fun o8 =>
                (optK (S.mdown a 1) fun o9 =>
                  bif !decide (Prod.snd o8 = 0) then
                    k (.bool false) ([])
                  else
                    bif !decide (Prod.snd o9 = 0) then
                      k (.bool false) ([])
                    else
                      bif !decide (Prod.fst o8 = a) then
                        k (.bool false) ([])
                      else
                        bif !decide (Prod.fst o9 = a) then
                          k (.bool false) ([])
                        else
                          bif decide (a = 0) then
                            k (.bool true) ([])
                          else
                            (optK (S.mup a a) fun o15 =>
                              (optK (S.mdown a a) fun o16 =>
                                bif decide (Prod.snd o15 = 0) then
                                  bif decide (Prod.snd o16 = 0) then
                                    bif decide (Prod.fst o15 = 1) then
                                      k (.bool (decide (Prod.fst o16 = 1))) ([])
                                    else
                                      k (.bool false) ([])
                                  else
                                    k (.bool false) ([])
                                else
                                  k (.bool false) ([]))))))
  else
    (optK (S.mmul a 1000) fun o3 =>
      bif !decide (Prod.snd o3 = 0) then
        k (.bool false) ([])
      else
        bif !decide (Prod.fst o3 = a) then
          k (.bool false) ([])
        else
          (optK (S.mup a 1) fun o6 =>
            (optK (S.mdown a 1) fun o7 =>
              bif !decide (Prod.snd o6 = 0) then
                k (.bool false) ([])
              else
                bif !decide (Prod.snd o7 = 0) then
                  k (.bool false) ([])
                else
                  bif !decide (Prod.fst o6 = a) then
                    k (.bool false) ([])
                  else
                    bif !decide (Prod.fst o7 = a) then
                      k (.bool false) ([])
                    else
                      bif decide (a = 0) then
                        k (.bool true) ([])
                      else
                        (optK (S.mup a a) fun o13 =>
                          (optK (S.mdown a a) fun o14 =>
                            bif decide (Prod.snd o13 = 0) then
                              bif decide (Prod.snd o14 = 0) then
                                bif decide (Prod.fst o13 = 1) then
                                  k (.bool (decide (Prod.fst o14 = 1))) ([])
                                else
                                  k (.bool false) ([])
                              else
                                k (.bool false) ([])
                            else
                              k (.bool false) ([]))))))) := by kernel_rfl
noncomputable def S.MilliBack (a b : Int) : Option (Bool) :=
  bif decide (Prod.snd (S.madd a b) = 0) then
    bif !decide (Prod.snd (S.msub (Prod.fst (S.madd a b)) b) = 0) then
      some (false)
    else
      bif !decide (Prod.fst (S.msub (Prod.fst (S.madd a b)) b) = a) then
        some (false)
      else
        (optK (S.mmul a 1000) fun o5 =>
          bif !decide (Prod.snd o5 = 0) then
            some (false)
          else
            bif !decide (Prod.fst o5 = a) then
              some (false)
            else
              (optK (S.mup a 1) fun o8 =>
                (optK (S.mdown a 1) fun o9 =>
                  bif !decide (Prod.snd o8 = 0) then
                    some (false)
                  else
                    bif !decide (Prod.snd o9 = 0) then
                      some (false)
                    else
                      bif !decide (Prod.fst o8 = a) then
                        some (false)
                      else
                        bif !decide (Prod.fst o9 = a) then
                          some (false)
                        else
                          bif decide (a = 0) then
                            some (true)
                          else
                            (optK (S.mup a a) fun o15 =>
                              (optK (S.mdown a a) fun o16 =>
                                bif decide (Prod.snd o15 = 0) then
                                  bif decide (Prod.snd o16 = 0) then
                                    bif decide (Prod.fst o15 = 1) then
                                      some (decide (Prod.fst o16 = 1))
                                    else
                                      some (false)
                                  else
                                    some (false)
                                else
                                  some (false))))))
  else
    (optK (S.mmul a 1000) fun o3 =>
      bif !decide (Prod.snd o3 = 0) then
        some (false)
      else
        bif !decide (Prod.fst o3 = a) then
          some (false)
        else
          (optK (S.mup a 1) fun o6 =>
            (optK (S.mdown a 1) fun o7 =>
              bif !decide (Prod.snd o6 = 0) then
                some (false)
              else
                bif !decide (Prod.snd o7 = 0) then
                  some (false)
                else
                  bif !decide (Prod.fst o6 = a) then
                    some (false)
                  else
                    bif !decide (Prod.fst o7 = a) then
                      some (false)
                    else
                      bif decide (a = 0) then
                        some (true)
                      else
                        (optK (S.mup a a) fun o13 =>
                          (optK (S.mdown a a) fun o14 =>
                            bif decide (Prod.snd o13 = 0) then
                              bif decide (Prod.snd o14 = 0) then
                                bif decide (Prod.fst o13 = 1) then
                                  some (decide (Prod.fst o14 = 1))
                                else
                                  some (false)
                              else
                                some (false)
                            else
                              some (false))))))
theorem S.MilliBack_v {R : Type} (a b : Int) (k : AVal → List Blk → Option R) : fnEval tis F7 0 G6 Try.f7 [.int .i64 a, .int .i64 b] [] k = oK (fun v : Bool => k (.bool v) []) (S.MilliBack a b) :=
  (S.MilliBack_k a b k).trans (bif_lift (f := (oK (fun v : Bool => k (.bool v) []))) (bif_lift (f := (oK (fun v : Bool => k (.bool v) []))) rfl (bif_lift (f := (oK (fun v : Bool => k (.bool v) []))) rfl (opt_lift fun o5 => (bif_lift (f := (oK (fun v : Bool => k (.bool v) []))) rfl (bif_lift (f := (oK (fun v : Bool => k (.bool v) []))) rfl (opt_lift fun o8 => (opt_lift fun o9 => (bif_lift (f := (oK (fun v : Bool => k (.bool v) []))) rfl (bif_lift (f := (oK (fun v : Bool => k (.bool v) []))) rfl (bif_lift (f := (oK (fun v : Bool => k (.bool v) []))) rfl (bif_lift (f := (oK (fun v : Bool => k (.bool v) []))) rfl (bif_lift (f := (oK (fun v : Bool => k (.bool v) []))) rfl (opt_lift fun o15 => (opt_lift fun o16 => (bif_lift (f := (oK (fun v : Bool => k (.bool v) []))) (bif_lift (f := (oK (fun v : Bool => k (.bool v) []))) (bif_lift (f := (oK (fun v : Bool => k (.bool v) []))) rfl rfl) rfl) rfl))))))))))))))) (opt_lift fun o3 => (bif_lift (f := (oK (fun v : Bool => k (.bool v) []))) rfl (bif_lift (f := (oK (fun v : Bool => k (.bool v) []))) rfl (opt_lift fun o6 => (opt_lift fun o7 => (bif_lift (f := (oK (fun v : Bool => k (.bool v) []))) rfl (bif_lift (f := (oK (fun v : Bool => k (.bool v) []))) rfl (bif_lift (f := (oK (fun v : Bool => k (.bool v) []))) rfl (bif_lift (f := (oK (fun v : Bool => k (.bool v) []))) rfl (bif_lift (f := (oK (fun v : Bool => k (.bool v) []))) rfl (opt_lift fun o13 => (opt_lift fun o14 => (bif_lift (f := (oK (fun v : Bool => k (.bool v) []))) (bif_lift (f := (oK (fun v : Bool => k (.bool v) []))) (bif_lift (f := (oK (fun v : Bool => k (.bool v) []))) rfl rfl) rfl) rfl))))))))))))))
noncomputable def H7 : Hnd := fun R args σ k => match args, σ with
  | [.int .i64 a, .int .i64 b], [] => oK (fun v : Bool => k (.bool v) []) (S.MilliBack a b)
  | _, _ => none
theorem H7_ok : HndOk Try.prog 7 H7 := hnd_ok tis tisOk mixOk G6_ok F7 Try.func7 rfl (by
  intro R args σ k r h
  unfold H7 at h
  split at h
  · rename_i a b; exact ⟨0, (S.MilliBack_v a b _).trans h⟩
  · cases h)
noncomputable def G7 : Env := Env.add 7 H7 G6
theorem G7_ok : EnvOk Try.prog G7 := envAdd_ok H7_ok G6_ok

/-! spinnakerlaw1.MilliClamps -/
def F8 : FCfg := ⟨keepAt [(0, [0, 1, 2]), (1, [0, 7, 8]), (2, [0, 7, 8, 9]), (3, [6])], loopAt [], []⟩
theorem S.MilliClamps_k {R : Type} (a b c : Int) (k : AVal → List Blk → Option R) : fnEval tis F8 0 G7 Try.f8 [.int .i64 a, .int .i64 b, .int .i64 c] [] k =
  (bif decide ((if c < b then c else b) ≤ S.mclamp a (if c < b then c else b) (if c > b then c else b)) then
    bif decide (S.mclamp a (if c < b then c else b) (if c > b then c else b) ≤ if c > b then c else b) then
      bif decide (a < if c < b then c else b) then
        k (.bool (decide (S.mclamp (S.mclamp a (if c < b then c else b) (if c > b then c else b)) (if c < b then c else b) (if c > b then c else b) = S.mclamp a (if c < b then c else b) (if c > b then c else b)))) ([])
      else
        bif decide ((if c > b then c else b) < a) then
          k (.bool (decide (S.mclamp (S.mclamp a (if c < b then c else b) (if c > b then c else b)) (if c < b then c else b) (if c > b then c else b) = S.mclamp a (if c < b then c else b) (if c > b then c else b)))) ([])
        else
          bif decide (S.mclamp a (if c < b then c else b) (if c > b then c else b) = a) then
            k (.bool (decide (S.mclamp (S.mclamp a (if c < b then c else b) (if c > b then c else b)) (if c < b then c else b) (if c > b then c else b) = S.mclamp a (if c < b then c else b) (if c > b then c else b)))) ([])
          else
            k (.bool false) ([])
    else
      k (.bool false) ([])
  else
    k (.bool false) ([])) := by kernel_rfl
noncomputable def S.MilliClamps (a b c : Int) : Bool :=
  bif decide ((if c < b then c else b) ≤ S.mclamp a (if c < b then c else b) (if c > b then c else b)) then
    bif decide (S.mclamp a (if c < b then c else b) (if c > b then c else b) ≤ if c > b then c else b) then
      bif decide (a < if c < b then c else b) then
        (decide (S.mclamp (S.mclamp a (if c < b then c else b) (if c > b then c else b)) (if c < b then c else b) (if c > b then c else b) = S.mclamp a (if c < b then c else b) (if c > b then c else b)))
      else
        bif decide ((if c > b then c else b) < a) then
          (decide (S.mclamp (S.mclamp a (if c < b then c else b) (if c > b then c else b)) (if c < b then c else b) (if c > b then c else b) = S.mclamp a (if c < b then c else b) (if c > b then c else b)))
        else
          bif decide (S.mclamp a (if c < b then c else b) (if c > b then c else b) = a) then
            (decide (S.mclamp (S.mclamp a (if c < b then c else b) (if c > b then c else b)) (if c < b then c else b) (if c > b then c else b) = S.mclamp a (if c < b then c else b) (if c > b then c else b)))
          else
            (false)
    else
      (false)
  else
    (false)
theorem S.MilliClamps_v {R : Type} (a b c : Int) (k : AVal → List Blk → Option R) : fnEval tis F8 0 G7 Try.f8 [.int .i64 a, .int .i64 b, .int .i64 c] [] k = k (.bool (S.MilliClamps a b c)) [] :=
  (S.MilliClamps_k a b c k).trans (bif_lift (f := (fun v : Bool => k (.bool v) [])) (bif_lift (f := (fun v : Bool => k (.bool v) [])) (bif_lift (f := (fun v : Bool => k (.bool v) [])) rfl (bif_lift (f := (fun v : Bool => k (.bool v) [])) rfl (bif_lift (f := (fun v : Bool => k (.bool v) [])) rfl rfl))) rfl) rfl)
noncomputable def H8 : Hnd := fun R args σ k => match args, σ with
  | [.int .i64 a, .int .i64 b, .int .i64 c], [] => k (.bool (S.MilliClamps a b c)) []
  | _, _ => none
theorem H8_ok : HndOk Try.prog 8 H8 := hnd_ok tis tisOk mixOk G7_ok F8 Try.func8 rfl (by
  intro R args σ k r h
  unfold H8 at h
  split at h
  · rename_i a b c; exact ⟨0, (S.MilliClamps_v a b c _).trans h⟩
  · cases h)
noncomputable def G8 : Env := Env.add 8 H8 G7
theorem G8_ok : EnvOk Try.prog G8 := envAdd_ok H8_ok G7_ok
end Go.Proofs.Ytjbdlnomjkhhbaa.AB
