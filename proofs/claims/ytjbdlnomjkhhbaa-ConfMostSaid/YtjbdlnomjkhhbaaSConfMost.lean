/- ConfMost, as a plain function. -/
import Derived.Test.YtjbdlnomjkhhbaaSconf3z
namespace Go.Proofs.Ytjbdlnomjkhhbaa.AB
set_option linter.unusedVariables false

/-! spinnakerlaw3.ConfMost -/
def F14 : FCfg := ⟨keepAt [(0, [0, 1, 2]), (1, [0, 1, 2, 7]), (2, [7]), (3, [7, 8]), (4, [7, 8, 9]), (5, [6])], loopAt [], []⟩
theorem S.ConfMost_k {R : Type} (a b f : Int) (k : AVal → List Blk → Option R) : fnEval tis F14 0 G38s Try.f14 [.int .i64 a, .int .i64 b, .int .i64 f] [] k =
  (bif decide (Go.IntKind.wrap .i64 (Int.tmod (Go.IntKind.wrap .u64 a) 104) ≤ 100) then
    bif decide (Go.IntKind.wrap .i64 (Int.tmod (Go.IntKind.wrap .u64 b) 104) = 0) then
      bif decide (Go.IntKind.wrap .i64 (Int.tmod (Go.IntKind.wrap .u64 f) 104) ≤ 100) then
        bif S.q_may (Cf.mk 10000 700 60 6 1 2000 10000 2000 (Go.IntKind.wrap .i64 (Int.tmod (Go.IntKind.wrap .u64 a) 104)) (Go.IntKind.wrap .i64 (Int.tmod (Go.IntKind.wrap .u64 b) 104)) (Go.IntKind.wrap .i64 (Int.tmod (Go.IntKind.wrap .u64 f) 104)) 30 0 20000 10 100 60 3 0 0) == true then
          bif (Array.toList (ByteArray.data (S.q_wrong (Cf.mk 10000 700 60 6 1 2000 10000 2000 (Go.IntKind.wrap .i64 (Int.tmod (Go.IntKind.wrap .u64 a) 104)) (Go.IntKind.wrap .i64 (Int.tmod (Go.IntKind.wrap .u64 b) 104)) (Go.IntKind.wrap .i64 (Int.tmod (Go.IntKind.wrap .u64 f) 104)) 30 0 20000 10 100 60 3 0 0))) == Array.toList (ByteArray.data (bs []))) == true then
            bif decide (S.cmost (Cf.mk 10000 700 60 6 1 2000 10000 2000 (Go.IntKind.wrap .i64 (Int.tmod (Go.IntKind.wrap .u64 a) 104)) (Go.IntKind.wrap .i64 (Int.tmod (Go.IntKind.wrap .u64 b) 104)) (Go.IntKind.wrap .i64 (Int.tmod (Go.IntKind.wrap .u64 f) 104)) 30 0 20000 10 100 60 3 0 0) = 100) then
              k (.bool (decide (Go.IntKind.wrap .i64 (Int.tmod (Go.IntKind.wrap .u64 b) 104) = 0) == !decide (Go.IntKind.wrap .i64 (Int.tmod (Go.IntKind.wrap .u64 b) 104) = 100))) ([])
            else
              k (.bool (decide (Go.IntKind.wrap .i64 (Int.tmod (Go.IntKind.wrap .u64 b) 104) = 0) == false)) ([])
          else
            k (.bool false) ([])
        else
          k (.bool false) ([])
      else
        bif decide (1 ≤ Go.IntKind.wrap .i64 (Int.tmod (Go.IntKind.wrap .u64 b) 104)) then
          bif decide (Go.IntKind.wrap .i64 (Int.tmod (Go.IntKind.wrap .u64 b) 104) ≤ 100) then
            bif decide (Go.IntKind.wrap .i64 (Int.tmod (Go.IntKind.wrap .u64 a) 104) ≤ Go.IntKind.wrap .i64 (Int.tmod (Go.IntKind.wrap .u64 b) 104)) then
              bif S.q_may (Cf.mk 10000 700 60 6 1 2000 10000 2000 (Go.IntKind.wrap .i64 (Int.tmod (Go.IntKind.wrap .u64 a) 104)) (Go.IntKind.wrap .i64 (Int.tmod (Go.IntKind.wrap .u64 b) 104)) (Go.IntKind.wrap .i64 (Int.tmod (Go.IntKind.wrap .u64 f) 104)) 30 0 20000 10 100 60 3 0 0) == decide (Go.IntKind.wrap .i64 (Int.tmod (Go.IntKind.wrap .u64 f) 104) ≤ Go.IntKind.wrap .i64 (Int.tmod (Go.IntKind.wrap .u64 b) 104)) then
                bif (Array.toList (ByteArray.data (S.q_wrong (Cf.mk 10000 700 60 6 1 2000 10000 2000 (Go.IntKind.wrap .i64 (Int.tmod (Go.IntKind.wrap .u64 a) 104)) (Go.IntKind.wrap .i64 (Int.tmod (Go.IntKind.wrap .u64 b) 104)) (Go.IntKind.wrap .i64 (Int.tmod (Go.IntKind.wrap .u64 f) 104)) 30 0 20000 10 100 60 3 0 0))) == Array.toList (ByteArray.data (bs []))) == decide (Go.IntKind.wrap .i64 (Int.tmod (Go.IntKind.wrap .u64 f) 104) ≤ Go.IntKind.wrap .i64 (Int.tmod (Go.IntKind.wrap .u64 b) 104)) then
                  bif decide (Go.IntKind.wrap .i64 (Int.tmod (Go.IntKind.wrap .u64 f) 104) ≤ Go.IntKind.wrap .i64 (Int.tmod (Go.IntKind.wrap .u64 b) 104)) then
                    bif decide (S.cmost (Cf.mk 10000 700 60 6 1 2000 10000 2000 (Go.IntKind.wrap .i64 (Int.tmod (Go.IntKind.wrap .u64 a) 104)) (Go.IntKind.wrap .i64 (Int.tmod (Go.IntKind.wrap .u64 b) 104)) (Go.IntKind.wrap .i64 (Int.tmod (Go.IntKind.wrap .u64 f) 104)) 30 0 20000 10 100 60 3 0 0) = 100) then
                      k (.bool (decide (Go.IntKind.wrap .i64 (Int.tmod (Go.IntKind.wrap .u64 b) 104) = 0) == !decide (Go.IntKind.wrap .i64 (Int.tmod (Go.IntKind.wrap .u64 b) 104) = 100))) ([])
                    else
                      k (.bool (decide (Go.IntKind.wrap .i64 (Int.tmod (Go.IntKind.wrap .u64 b) 104) = 0) == false)) ([])
                  else
                    bif Array.toList (ByteArray.data (S.q_wrong (Cf.mk 10000 700 60 6 1 2000 10000 2000 (Go.IntKind.wrap .i64 (Int.tmod (Go.IntKind.wrap .u64 a) 104)) (Go.IntKind.wrap .i64 (Int.tmod (Go.IntKind.wrap .u64 b) 104)) (Go.IntKind.wrap .i64 (Int.tmod (Go.IntKind.wrap .u64 f) 104)) 30 0 20000 10 100 60 3 0 0))) == Array.toList (ByteArray.data (bs [109, 105, 110])) then
                      bif decide (S.cmost (Cf.mk 10000 700 60 6 1 2000 10000 2000 (Go.IntKind.wrap .i64 (Int.tmod (Go.IntKind.wrap .u64 a) 104)) (Go.IntKind.wrap .i64 (Int.tmod (Go.IntKind.wrap .u64 b) 104)) (Go.IntKind.wrap .i64 (Int.tmod (Go.IntKind.wrap .u64 f) 104)) 30 0 20000 10 100 60 3 0 0) = 100) then
                        k (.bool (decide (Go.IntKind.wrap .i64 (Int.tmod (Go.IntKind.wrap .u64 b) 104) = 0) == !decide (Go.IntKind.wrap .i64 (Int.tmod (Go.IntKind.wrap .u64 b) 104) = 100))) ([])
                      else
                        k (.bool (decide (Go.IntKind.wrap .i64 (Int.tmod (Go.IntKind.wrap .u64 b) 104) = 0) == false)) ([])
                    else
                      bif Array.toList (ByteArray.data (S.q_wrong (Cf.mk 10000 700 60 6 1 2000 10000 2000 (Go.IntKind.wrap .i64 (Int.tmod (Go.IntKind.wrap .u64 a) 104)) (Go.IntKind.wrap .i64 (Int.tmod (Go.IntKind.wrap .u64 b) 104)) (Go.IntKind.wrap .i64 (Int.tmod (Go.IntKind.wrap .u64 f) 104)) 30 0 20000 10 100 60 3 0 0))) == Array.toList (ByteArray.data (bs [109, 97, 120])) then
                        bif decide (S.cmost (Cf.mk 10000 700 60 6 1 2000 10000 2000 (Go.IntKind.wrap .i64 (Int.tmod (Go.IntKind.wrap .u64 a) 104)) (Go.IntKind.wrap .i64 (Int.tmod (Go.IntKind.wrap .u64 b) 104)) (Go.IntKind.wrap .i64 (Int.tmod (Go.IntKind.wrap .u64 f) 104)) 30 0 20000 10 100 60 3 0 0) = 100) then
                          k (.bool (decide (Go.IntKind.wrap .i64 (Int.tmod (Go.IntKind.wrap .u64 b) 104) = 0) == !decide (Go.IntKind.wrap .i64 (Int.tmod (Go.IntKind.wrap .u64 b) 104) = 100))) ([])
                        else
                          k (.bool (decide (Go.IntKind.wrap .i64 (Int.tmod (Go.IntKind.wrap .u64 b) 104) = 0) == false)) ([])
                      else
                        bif Array.toList (ByteArray.data (S.q_wrong (Cf.mk 10000 700 60 6 1 2000 10000 2000 (Go.IntKind.wrap .i64 (Int.tmod (Go.IntKind.wrap .u64 a) 104)) (Go.IntKind.wrap .i64 (Int.tmod (Go.IntKind.wrap .u64 b) 104)) (Go.IntKind.wrap .i64 (Int.tmod (Go.IntKind.wrap .u64 f) 104)) 30 0 20000 10 100 60 3 0 0))) == Array.toList (ByteArray.data (bs [105, 110, 105, 116, 105, 97, 108])) then
                          bif decide (S.cmost (Cf.mk 10000 700 60 6 1 2000 10000 2000 (Go.IntKind.wrap .i64 (Int.tmod (Go.IntKind.wrap .u64 a) 104)) (Go.IntKind.wrap .i64 (Int.tmod (Go.IntKind.wrap .u64 b) 104)) (Go.IntKind.wrap .i64 (Int.tmod (Go.IntKind.wrap .u64 f) 104)) 30 0 20000 10 100 60 3 0 0) = 100) then
                            k (.bool (decide (Go.IntKind.wrap .i64 (Int.tmod (Go.IntKind.wrap .u64 b) 104) = 0) == !decide (Go.IntKind.wrap .i64 (Int.tmod (Go.IntKind.wrap .u64 b) 104) = 100))) ([])
                          else
                            k (.bool (decide (Go.IntKind.wrap .i64 (Int.tmod (Go.IntKind.wrap .u64 b) 104) = 0) == false)) ([])
                        else
                          k (.bool false) ([])
                else
                  k (.bool false) ([])
              else
                k (.bool false) ([])
            else
              bif S.q_may (Cf.mk 10000 700 60 6 1 2000 10000 2000 (Go.IntKind.wrap .i64 (Int.tmod (Go.IntKind.wrap .u64 a) 104)) (Go.IntKind.wrap .i64 (Int.tmod (Go.IntKind.wrap .u64 b) 104)) (Go.IntKind.wrap .i64 (Int.tmod (Go.IntKind.wrap .u64 f) 104)) 30 0 20000 10 100 60 3 0 0) == false then
                bif (Array.toList (ByteArray.data (S.q_wrong (Cf.mk 10000 700 60 6 1 2000 10000 2000 (Go.IntKind.wrap .i64 (Int.tmod (Go.IntKind.wrap .u64 a) 104)) (Go.IntKind.wrap .i64 (Int.tmod (Go.IntKind.wrap .u64 b) 104)) (Go.IntKind.wrap .i64 (Int.tmod (Go.IntKind.wrap .u64 f) 104)) 30 0 20000 10 100 60 3 0 0))) == Array.toList (ByteArray.data (bs []))) == false then
                  bif Array.toList (ByteArray.data (S.q_wrong (Cf.mk 10000 700 60 6 1 2000 10000 2000 (Go.IntKind.wrap .i64 (Int.tmod (Go.IntKind.wrap .u64 a) 104)) (Go.IntKind.wrap .i64 (Int.tmod (Go.IntKind.wrap .u64 b) 104)) (Go.IntKind.wrap .i64 (Int.tmod (Go.IntKind.wrap .u64 f) 104)) 30 0 20000 10 100 60 3 0 0))) == Array.toList (ByteArray.data (bs [109, 105, 110])) then
                    bif decide (S.cmost (Cf.mk 10000 700 60 6 1 2000 10000 2000 (Go.IntKind.wrap .i64 (Int.tmod (Go.IntKind.wrap .u64 a) 104)) (Go.IntKind.wrap .i64 (Int.tmod (Go.IntKind.wrap .u64 b) 104)) (Go.IntKind.wrap .i64 (Int.tmod (Go.IntKind.wrap .u64 f) 104)) 30 0 20000 10 100 60 3 0 0) = 100) then
                      k (.bool (decide (Go.IntKind.wrap .i64 (Int.tmod (Go.IntKind.wrap .u64 b) 104) = 0) == !decide (Go.IntKind.wrap .i64 (Int.tmod (Go.IntKind.wrap .u64 b) 104) = 100))) ([])
                    else
                      k (.bool (decide (Go.IntKind.wrap .i64 (Int.tmod (Go.IntKind.wrap .u64 b) 104) = 0) == false)) ([])
                  else
                    bif Array.toList (ByteArray.data (S.q_wrong (Cf.mk 10000 700 60 6 1 2000 10000 2000 (Go.IntKind.wrap .i64 (Int.tmod (Go.IntKind.wrap .u64 a) 104)) (Go.IntKind.wrap .i64 (Int.tmod (Go.IntKind.wrap .u64 b) 104)) (Go.IntKind.wrap .i64 (Int.tmod (Go.IntKind.wrap .u64 f) 104)) 30 0 20000 10 100 60 3 0 0))) == Array.toList (ByteArray.data (bs [109, 97, 120])) then
                      bif decide (S.cmost (Cf.mk 10000 700 60 6 1 2000 10000 2000 (Go.IntKind.wrap .i64 (Int.tmod (Go.IntKind.wrap .u64 a) 104)) (Go.IntKind.wrap .i64 (Int.tmod (Go.IntKind.wrap .u64 b) 104)) (Go.IntKind.wrap .i64 (Int.tmod (Go.IntKind.wrap .u64 f) 104)) 30 0 20000 10 100 60 3 0 0) = 100) then
                        k (.bool (decide (Go.IntKind.wrap .i64 (Int.tmod (Go.IntKind.wrap .u64 b) 104) = 0) == !decide (Go.IntKind.wrap .i64 (Int.tmod (Go.IntKind.wrap .u64 b) 104) = 100))) ([])
                      else
                        k (.bool (decide (Go.IntKind.wrap .i64 (Int.tmod (Go.IntKind.wrap .u64 b) 104) = 0) == false)) ([])
                    else
                      bif Array.toList (ByteArray.data (S.q_wrong (Cf.mk 10000 700 60 6 1 2000 10000 2000 (Go.IntKind.wrap .i64 (Int.tmod (Go.IntKind.wrap .u64 a) 104)) (Go.IntKind.wrap .i64 (Int.tmod (Go.IntKind.wrap .u64 b) 104)) (Go.IntKind.wrap .i64 (Int.tmod (Go.IntKind.wrap .u64 f) 104)) 30 0 20000 10 100 60 3 0 0))) == Array.toList (ByteArray.data (bs [105, 110, 105, 116, 105, 97, 108])) then
                        bif decide (S.cmost (Cf.mk 10000 700 60 6 1 2000 10000 2000 (Go.IntKind.wrap .i64 (Int.tmod (Go.IntKind.wrap .u64 a) 104)) (Go.IntKind.wrap .i64 (Int.tmod (Go.IntKind.wrap .u64 b) 104)) (Go.IntKind.wrap .i64 (Int.tmod (Go.IntKind.wrap .u64 f) 104)) 30 0 20000 10 100 60 3 0 0) = 100) then
                          k (.bool (decide (Go.IntKind.wrap .i64 (Int.tmod (Go.IntKind.wrap .u64 b) 104) = 0) == !decide (Go.IntKind.wrap .i64 (Int.tmod (Go.IntKind.wrap .u64 b) 104) = 100))) ([])
                        else
                          k (.bool (decide (Go.IntKind.wrap .i64 (Int.tmod (Go.IntKind.wrap .u64 b) 104) = 0) == false)) ([])
                      else
                        k (.bool false) ([])
                else
                  k (.bool false) ([])
              else
                k (.bool false) ([])
          else
            bif S.q_may (Cf.mk 10000 700 60 6 1 2000 10000 2000 (Go.IntKind.wrap .i64 (Int.tmod (Go.IntKind.wrap .u64 a) 104)) (Go.IntKind.wrap .i64 (Int.tmod (Go.IntKind.wrap .u64 b) 104)) (Go.IntKind.wrap .i64 (Int.tmod (Go.IntKind.wrap .u64 f) 104)) 30 0 20000 10 100 60 3 0 0) == false then
              bif (Array.toList (ByteArray.data (S.q_wrong (Cf.mk 10000 700 60 6 1 2000 10000 2000 (Go.IntKind.wrap .i64 (Int.tmod (Go.IntKind.wrap .u64 a) 104)) (Go.IntKind.wrap .i64 (Int.tmod (Go.IntKind.wrap .u64 b) 104)) (Go.IntKind.wrap .i64 (Int.tmod (Go.IntKind.wrap .u64 f) 104)) 30 0 20000 10 100 60 3 0 0))) == Array.toList (ByteArray.data (bs []))) == false then
                bif Array.toList (ByteArray.data (S.q_wrong (Cf.mk 10000 700 60 6 1 2000 10000 2000 (Go.IntKind.wrap .i64 (Int.tmod (Go.IntKind.wrap .u64 a) 104)) (Go.IntKind.wrap .i64 (Int.tmod (Go.IntKind.wrap .u64 b) 104)) (Go.IntKind.wrap .i64 (Int.tmod (Go.IntKind.wrap .u64 f) 104)) 30 0 20000 10 100 60 3 0 0))) == Array.toList (ByteArray.data (bs [109, 105, 110])) then
                  bif decide (S.cmost (Cf.mk 10000 700 60 6 1 2000 10000 2000 (Go.IntKind.wrap .i64 (Int.tmod (Go.IntKind.wrap .u64 a) 104)) (Go.IntKind.wrap .i64 (Int.tmod (Go.IntKind.wrap .u64 b) 104)) (Go.IntKind.wrap .i64 (Int.tmod (Go.IntKind.wrap .u64 f) 104)) 30 0 20000 10 100 60 3 0 0) = 100) then
                    k (.bool (decide (Go.IntKind.wrap .i64 (Int.tmod (Go.IntKind.wrap .u64 b) 104) = 0) == !decide (Go.IntKind.wrap .i64 (Int.tmod (Go.IntKind.wrap .u64 b) 104) = 100))) ([])
                  else
                    k (.bool (decide (Go.IntKind.wrap .i64 (Int.tmod (Go.IntKind.wrap .u64 b) 104) = 0) == false)) ([])
                else
                  bif Array.toList (ByteArray.data (S.q_wrong (Cf.mk 10000 700 60 6 1 2000 10000 2000 (Go.IntKind.wrap .i64 (Int.tmod (Go.IntKind.wrap .u64 a) 104)) (Go.IntKind.wrap .i64 (Int.tmod (Go.IntKind.wrap .u64 b) 104)) (Go.IntKind.wrap .i64 (Int.tmod (Go.IntKind.wrap .u64 f) 104)) 30 0 20000 10 100 60 3 0 0))) == Array.toList (ByteArray.data (bs [109, 97, 120])) then
                    bif decide (S.cmost (Cf.mk 10000 700 60 6 1 2000 10000 2000 (Go.IntKind.wrap .i64 (Int.tmod (Go.IntKind.wrap .u64 a) 104)) (Go.IntKind.wrap .i64 (Int.tmod (Go.IntKind.wrap .u64 b) 104)) (Go.IntKind.wrap .i64 (Int.tmod (Go.IntKind.wrap .u64 f) 104)) 30 0 20000 10 100 60 3 0 0) = 100) then
                      k (.bool (decide (Go.IntKind.wrap .i64 (Int.tmod (Go.IntKind.wrap .u64 b) 104) = 0) == !decide (Go.IntKind.wrap .i64 (Int.tmod (Go.IntKind.wrap .u64 b) 104) = 100))) ([])
                    else
                      k (.bool (decide (Go.IntKind.wrap .i64 (Int.tmod (Go.IntKind.wrap .u64 b) 104) = 0) == false)) ([])
                  else
                    bif Array.toList (ByteArray.data (S.q_wrong (Cf.mk 10000 700 60 6 1 2000 10000 2000 (Go.IntKind.wrap .i64 (Int.tmod (Go.IntKind.wrap .u64 a) 104)) (Go.IntKind.wrap .i64 (Int.tmod (Go.IntKind.wrap .u64 b) 104)) (Go.IntKind.wrap .i64 (Int.tmod (Go.IntKind.wrap .u64 f) 104)) 30 0 20000 10 100 60 3 0 0))) == Array.toList (ByteArray.data (bs [105, 110, 105, 116, 105, 97, 108])) then
                      bif decide (S.cmost (Cf.mk 10000 700 60 6 1 2000 10000 2000 (Go.IntKind.wrap .i64 (Int.tmod (Go.IntKind.wrap .u64 a) 104)) (Go.IntKind.wrap .i64 (Int.tmod (Go.IntKind.wrap .u64 b) 104)) (Go.IntKind.wrap .i64 (Int.tmod (Go.IntKind.wrap .u64 f) 104)) 30 0 20000 10 100 60 3 0 0) = 100) then
                        k (.bool (decide (Go.IntKind.wrap .i64 (Int.tmod (Go.IntKind.wrap .u64 b) 104) = 0) == !decide (Go.IntKind.wrap .i64 (Int.tmod (Go.IntKind.wrap .u64 b) 104) = 100))) ([])
                      else
                        k (.bool (decide (Go.IntKind.wrap .i64 (Int.tmod (Go.IntKind.wrap .u64 b) 104) = 0) == false)) ([])
                    else
                      k (.bool false) ([])
              else
                k (.bool false) ([])
            else
              k (.bool false) ([])
        else
          bif S.q_may (Cf.mk 10000 700 60 6 1 2000 10000 2000 (Go.IntKind.wrap .i64 (Int.tmod (Go.IntKind.wrap .u64 a) 104)) (Go.IntKind.wrap .i64 (Int.tmod (Go.IntKind.wrap .u64 b) 104)) (Go.IntKind.wrap .i64 (Int.tmod (Go.IntKind.wrap .u64 f) 104)) 30 0 20000 10 100 60 3 0 0) == false then
            bif (Array.toList (ByteArray.data (S.q_wrong (Cf.mk 10000 700 60 6 1 2000 10000 2000 (Go.IntKind.wrap .i64 (Int.tmod (Go.IntKind.wrap .u64 a) 104)) (Go.IntKind.wrap .i64 (Int.tmod (Go.IntKind.wrap .u64 b) 104)) (Go.IntKind.wrap .i64 (Int.tmod (Go.IntKind.wrap .u64 f) 104)) 30 0 20000 10 100 60 3 0 0))) == Array.toList (ByteArray.data (bs []))) == false then
              bif Array.toList (ByteArray.data (S.q_wrong (Cf.mk 10000 700 60 6 1 2000 10000 2000 (Go.IntKind.wrap .i64 (Int.tmod (Go.IntKind.wrap .u64 a) 104)) (Go.IntKind.wrap .i64 (Int.tmod (Go.IntKind.wrap .u64 b) 104)) (Go.IntKind.wrap .i64 (Int.tmod (Go.IntKind.wrap .u64 f) 104)) 30 0 20000 10 100 60 3 0 0))) == Array.toList (ByteArray.data (bs [109, 105, 110])) then
                bif decide (S.cmost (Cf.mk 10000 700 60 6 1 2000 10000 2000 (Go.IntKind.wrap .i64 (Int.tmod (Go.IntKind.wrap .u64 a) 104)) (Go.IntKind.wrap .i64 (Int.tmod (Go.IntKind.wrap .u64 b) 104)) (Go.IntKind.wrap .i64 (Int.tmod (Go.IntKind.wrap .u64 f) 104)) 30 0 20000 10 100 60 3 0 0) = 100) then
                  k (.bool (decide (Go.IntKind.wrap .i64 (Int.tmod (Go.IntKind.wrap .u64 b) 104) = 0) == !decide (Go.IntKind.wrap .i64 (Int.tmod (Go.IntKind.wrap .u64 b) 104) = 100))) ([])
                else
                  k (.bool (decide (Go.IntKind.wrap .i64 (Int.tmod (Go.IntKind.wrap .u64 b) 104) = 0) == false)) ([])
              else
                bif Array.toList (ByteArray.data (S.q_wrong (Cf.mk 10000 700 60 6 1 2000 10000 2000 (Go.IntKind.wrap .i64 (Int.tmod (Go.IntKind.wrap .u64 a) 104)) (Go.IntKind.wrap .i64 (Int.tmod (Go.IntKind.wrap .u64 b) 104)) (Go.IntKind.wrap .i64 (Int.tmod (Go.IntKind.wrap .u64 f) 104)) 30 0 20000 10 100 60 3 0 0))) == Array.toList (ByteArray.data (bs [109, 97, 120])) then
                  bif decide (S.cmost (Cf.mk 10000 700 60 6 1 2000 10000 2000 (Go.IntKind.wrap .i64 (Int.tmod (Go.IntKind.wrap .u64 a) 104)) (Go.IntKind.wrap .i64 (Int.tmod (Go.IntKind.wrap .u64 b) 104)) (Go.IntKind.wrap .i64 (Int.tmod (Go.IntKind.wrap .u64 f) 104)) 30 0 20000 10 100 60 3 0 0) = 100) then
                    k (.bool (decide (Go.IntKind.wrap .i64 (Int.tmod (Go.IntKind.wrap .u64 b) 104) = 0) == !decide (Go.IntKind.wrap .i64 (Int.tmod (Go.IntKind.wrap .u64 b) 104) = 100))) ([])
                  else
                    k (.bool (decide (Go.IntKind.wrap .i64 (Int.tmod (Go.IntKind.wrap .u64 b) 104) = 0) == false)) ([])
                else
                  bif Array.toList (ByteArray.data (S.q_wrong (Cf.mk 10000 700 60 6 1 2000 10000 2000 (Go.IntKind.wrap .i64 (Int.tmod (Go.IntKind.wrap .u64 a) 104)) (Go.IntKind.wrap .i64 (Int.tmod (Go.IntKind.wrap .u64 b) 104)) (Go.IntKind.wrap .i64 (Int.tmod (Go.IntKind.wrap .u64 f) 104)) 30 0 20000 10 100 60 3 0 0))) == Array.toList (ByteArray.data (bs [105, 110, 105, 116, 105, 97, 108])) then
                    bif decide (S.cmost (Cf.mk 10000 700 60 6 1 2000 10000 2000 (Go.IntKind.wrap .i64 (Int.tmod (Go.IntKind.wrap .u64 a) 104)) (Go.IntKind.wrap .i64 (Int.tmod (Go.IntKind.wrap .u64 b) 104)) (Go.IntKind.wrap .i64 (Int.tmod (Go.IntKind.wrap .u64 f) 104)) 30 0 20000 10 100 60 3 0 0) = 100) then
                      k (.bool (decide (Go.IntKind.wrap .i64 (Int.tmod (Go.IntKind.wrap .u64 b) 104) = 0) == !decide (Go.IntKind.wrap .i64 (Int.tmod (Go.IntKind.wrap .u64 b) 104) = 100))) ([])
                    else
                      k (.bool (decide (Go.IntKind.wrap .i64 (Int.tmod (Go.IntKind.wrap .u64 b) 104) = 0) == false)) ([])
                  else
                    k (.bool false) ([])
            else
              k (.bool false) ([])
          else
            k (.bool false) ([])
    else
      bif decide (1 ≤ Go.IntKind.wrap .i64 (Int.tmod (Go.IntKind.wrap .u64 b) 104)) then
        bif decide (Go.IntKind.wrap .i64 (Int.tmod (Go.IntKind.wrap .u64 b) 104) ≤ 100) then
          bif decide (Go.IntKind.wrap .i64 (Int.tmod (Go.IntKind.wrap .u64 a) 104) ≤ Go.IntKind.wrap .i64 (Int.tmod (Go.IntKind.wrap .u64 b) 104)) then
            bif S.q_may (Cf.mk 10000 700 60 6 1 2000 10000 2000 (Go.IntKind.wrap .i64 (Int.tmod (Go.IntKind.wrap .u64 a) 104)) (Go.IntKind.wrap .i64 (Int.tmod (Go.IntKind.wrap .u64 b) 104)) (Go.IntKind.wrap .i64 (Int.tmod (Go.IntKind.wrap .u64 f) 104)) 30 0 20000 10 100 60 3 0 0) == decide (Go.IntKind.wrap .i64 (Int.tmod (Go.IntKind.wrap .u64 f) 104) ≤ Go.IntKind.wrap .i64 (Int.tmod (Go.IntKind.wrap .u64 b) 104)) then
              bif (Array.toList (ByteArray.data (S.q_wrong (Cf.mk 10000 700 60 6 1 2000 10000 2000 (Go.IntKind.wrap .i64 (Int.tmod (Go.IntKind.wrap .u64 a) 104)) (Go.IntKind.wrap .i64 (Int.tmod (Go.IntKind.wrap .u64 b) 104)) (Go.IntKind.wrap .i64 (Int.tmod (Go.IntKind.wrap .u64 f) 104)) 30 0 20000 10 100 60 3 0 0))) == Array.toList (ByteArray.data (bs []))) == decide (Go.IntKind.wrap .i64 (Int.tmod (Go.IntKind.wrap .u64 f) 104) ≤ Go.IntKind.wrap .i64 (Int.tmod (Go.IntKind.wrap .u64 b) 104)) then
                bif decide (Go.IntKind.wrap .i64 (Int.tmod (Go.IntKind.wrap .u64 f) 104) ≤ Go.IntKind.wrap .i64 (Int.tmod (Go.IntKind.wrap .u64 b) 104)) then
                  bif decide (S.cmost (Cf.mk 10000 700 60 6 1 2000 10000 2000 (Go.IntKind.wrap .i64 (Int.tmod (Go.IntKind.wrap .u64 a) 104)) (Go.IntKind.wrap .i64 (Int.tmod (Go.IntKind.wrap .u64 b) 104)) (Go.IntKind.wrap .i64 (Int.tmod (Go.IntKind.wrap .u64 f) 104)) 30 0 20000 10 100 60 3 0 0) = 100) then
                    k (.bool (decide (Go.IntKind.wrap .i64 (Int.tmod (Go.IntKind.wrap .u64 b) 104) = 0) == !decide (Go.IntKind.wrap .i64 (Int.tmod (Go.IntKind.wrap .u64 b) 104) = 100))) ([])
                  else
                    k (.bool (decide (Go.IntKind.wrap .i64 (Int.tmod (Go.IntKind.wrap .u64 b) 104) = 0) == false)) ([])
                else
                  bif Array.toList (ByteArray.data (S.q_wrong (Cf.mk 10000 700 60 6 1 2000 10000 2000 (Go.IntKind.wrap .i64 (Int.tmod (Go.IntKind.wrap .u64 a) 104)) (Go.IntKind.wrap .i64 (Int.tmod (Go.IntKind.wrap .u64 b) 104)) (Go.IntKind.wrap .i64 (Int.tmod (Go.IntKind.wrap .u64 f) 104)) 30 0 20000 10 100 60 3 0 0))) == Array.toList (ByteArray.data (bs [109, 105, 110])) then
                    bif decide (S.cmost (Cf.mk 10000 700 60 6 1 2000 10000 2000 (Go.IntKind.wrap .i64 (Int.tmod (Go.IntKind.wrap .u64 a) 104)) (Go.IntKind.wrap .i64 (Int.tmod (Go.IntKind.wrap .u64 b) 104)) (Go.IntKind.wrap .i64 (Int.tmod (Go.IntKind.wrap .u64 f) 104)) 30 0 20000 10 100 60 3 0 0) = 100) then
                      k (.bool (decide (Go.IntKind.wrap .i64 (Int.tmod (Go.IntKind.wrap .u64 b) 104) = 0) == !decide (Go.IntKind.wrap .i64 (Int.tmod (Go.IntKind.wrap .u64 b) 104) = 100))) ([])
                    else
                      k (.bool (decide (Go.IntKind.wrap .i64 (Int.tmod (Go.IntKind.wrap .u64 b) 104) = 0) == false)) ([])
                  else
                    bif Array.toList (ByteArray.data (S.q_wrong (Cf.mk 10000 700 60 6 1 2000 10000 2000 (Go.IntKind.wrap .i64 (Int.tmod (Go.IntKind.wrap .u64 a) 104)) (Go.IntKind.wrap .i64 (Int.tmod (Go.IntKind.wrap .u64 b) 104)) (Go.IntKind.wrap .i64 (Int.tmod (Go.IntKind.wrap .u64 f) 104)) 30 0 20000 10 100 60 3 0 0))) == Array.toList (ByteArray.data (bs [109, 97, 120])) then
                      bif decide (S.cmost (Cf.mk 10000 700 60 6 1 2000 10000 2000 (Go.IntKind.wrap .i64 (Int.tmod (Go.IntKind.wrap .u64 a) 104)) (Go.IntKind.wrap .i64 (Int.tmod (Go.IntKind.wrap .u64 b) 104)) (Go.IntKind.wrap .i64 (Int.tmod (Go.IntKind.wrap .u64 f) 104)) 30 0 20000 10 100 60 3 0 0) = 100) then
                        k (.bool (decide (Go.IntKind.wrap .i64 (Int.tmod (Go.IntKind.wrap .u64 b) 104) = 0) == !decide (Go.IntKind.wrap .i64 (Int.tmod (Go.IntKind.wrap .u64 b) 104) = 100))) ([])
                      else
                        k (.bool (decide (Go.IntKind.wrap .i64 (Int.tmod (Go.IntKind.wrap .u64 b) 104) = 0) == false)) ([])
                    else
                      bif Array.toList (ByteArray.data (S.q_wrong (Cf.mk 10000 700 60 6 1 2000 10000 2000 (Go.IntKind.wrap .i64 (Int.tmod (Go.IntKind.wrap .u64 a) 104)) (Go.IntKind.wrap .i64 (Int.tmod (Go.IntKind.wrap .u64 b) 104)) (Go.IntKind.wrap .i64 (Int.tmod (Go.IntKind.wrap .u64 f) 104)) 30 0 20000 10 100 60 3 0 0))) == Array.toList (ByteArray.data (bs [105, 110, 105, 116, 105, 97, 108])) then
                        bif decide (S.cmost (Cf.mk 10000 700 60 6 1 2000 10000 2000 (Go.IntKind.wrap .i64 (Int.tmod (Go.IntKind.wrap .u64 a) 104)) (Go.IntKind.wrap .i64 (Int.tmod (Go.IntKind.wrap .u64 b) 104)) (Go.IntKind.wrap .i64 (Int.tmod (Go.IntKind.wrap .u64 f) 104)) 30 0 20000 10 100 60 3 0 0) = 100) then
                          k (.bool (decide (Go.IntKind.wrap .i64 (Int.tmod (Go.IntKind.wrap .u64 b) 104) = 0) == !decide (Go.IntKind.wrap .i64 (Int.tmod (Go.IntKind.wrap .u64 b) 104) = 100))) ([])
                        else
                          k (.bool (decide (Go.IntKind.wrap .i64 (Int.tmod (Go.IntKind.wrap .u64 b) 104) = 0) == false)) ([])
                      else
                        k (.bool false) ([])
              else
                k (.bool false) ([])
            else
              k (.bool false) ([])
          else
            bif S.q_may (Cf.mk 10000 700 60 6 1 2000 10000 2000 (Go.IntKind.wrap .i64 (Int.tmod (Go.IntKind.wrap .u64 a) 104)) (Go.IntKind.wrap .i64 (Int.tmod (Go.IntKind.wrap .u64 b) 104)) (Go.IntKind.wrap .i64 (Int.tmod (Go.IntKind.wrap .u64 f) 104)) 30 0 20000 10 100 60 3 0 0) == false then
              bif (Array.toList (ByteArray.data (S.q_wrong (Cf.mk 10000 700 60 6 1 2000 10000 2000 (Go.IntKind.wrap .i64 (Int.tmod (Go.IntKind.wrap .u64 a) 104)) (Go.IntKind.wrap .i64 (Int.tmod (Go.IntKind.wrap .u64 b) 104)) (Go.IntKind.wrap .i64 (Int.tmod (Go.IntKind.wrap .u64 f) 104)) 30 0 20000 10 100 60 3 0 0))) == Array.toList (ByteArray.data (bs []))) == false then
                bif Array.toList (ByteArray.data (S.q_wrong (Cf.mk 10000 700 60 6 1 2000 10000 2000 (Go.IntKind.wrap .i64 (Int.tmod (Go.IntKind.wrap .u64 a) 104)) (Go.IntKind.wrap .i64 (Int.tmod (Go.IntKind.wrap .u64 b) 104)) (Go.IntKind.wrap .i64 (Int.tmod (Go.IntKind.wrap .u64 f) 104)) 30 0 20000 10 100 60 3 0 0))) == Array.toList (ByteArray.data (bs [109, 105, 110])) then
                  bif decide (S.cmost (Cf.mk 10000 700 60 6 1 2000 10000 2000 (Go.IntKind.wrap .i64 (Int.tmod (Go.IntKind.wrap .u64 a) 104)) (Go.IntKind.wrap .i64 (Int.tmod (Go.IntKind.wrap .u64 b) 104)) (Go.IntKind.wrap .i64 (Int.tmod (Go.IntKind.wrap .u64 f) 104)) 30 0 20000 10 100 60 3 0 0) = 100) then
                    k (.bool (decide (Go.IntKind.wrap .i64 (Int.tmod (Go.IntKind.wrap .u64 b) 104) = 0) == !decide (Go.IntKind.wrap .i64 (Int.tmod (Go.IntKind.wrap .u64 b) 104) = 100))) ([])
                  else
                    k (.bool (decide (Go.IntKind.wrap .i64 (Int.tmod (Go.IntKind.wrap .u64 b) 104) = 0) == false)) ([])
                else
                  bif Array.toList (ByteArray.data (S.q_wrong (Cf.mk 10000 700 60 6 1 2000 10000 2000 (Go.IntKind.wrap .i64 (Int.tmod (Go.IntKind.wrap .u64 a) 104)) (Go.IntKind.wrap .i64 (Int.tmod (Go.IntKind.wrap .u64 b) 104)) (Go.IntKind.wrap .i64 (Int.tmod (Go.IntKind.wrap .u64 f) 104)) 30 0 20000 10 100 60 3 0 0))) == Array.toList (ByteArray.data (bs [109, 97, 120])) then
                    bif decide (S.cmost (Cf.mk 10000 700 60 6 1 2000 10000 2000 (Go.IntKind.wrap .i64 (Int.tmod (Go.IntKind.wrap .u64 a) 104)) (Go.IntKind.wrap .i64 (Int.tmod (Go.IntKind.wrap .u64 b) 104)) (Go.IntKind.wrap .i64 (Int.tmod (Go.IntKind.wrap .u64 f) 104)) 30 0 20000 10 100 60 3 0 0) = 100) then
                      k (.bool (decide (Go.IntKind.wrap .i64 (Int.tmod (Go.IntKind.wrap .u64 b) 104) = 0) == !decide (Go.IntKind.wrap .i64 (Int.tmod (Go.IntKind.wrap .u64 b) 104) = 100))) ([])
                    else
                      k (.bool (decide (Go.IntKind.wrap .i64 (Int.tmod (Go.IntKind.wrap .u64 b) 104) = 0) == false)) ([])
                  else
                    bif Array.toList (ByteArray.data (S.q_wrong (Cf.mk 10000 700 60 6 1 2000 10000 2000 (Go.IntKind.wrap .i64 (Int.tmod (Go.IntKind.wrap .u64 a) 104)) (Go.IntKind.wrap .i64 (Int.tmod (Go.IntKind.wrap .u64 b) 104)) (Go.IntKind.wrap .i64 (Int.tmod (Go.IntKind.wrap .u64 f) 104)) 30 0 20000 10 100 60 3 0 0))) == Array.toList (ByteArray.data (bs [105, 110, 105, 116, 105, 97, 108])) then
                      bif decide (S.cmost (Cf.mk 10000 700 60 6 1 2000 10000 2000 (Go.IntKind.wrap .i64 (Int.tmod (Go.IntKind.wrap .u64 a) 104)) (Go.IntKind.wrap .i64 (Int.tmod (Go.IntKind.wrap .u64 b) 104)) (Go.IntKind.wrap .i64 (Int.tmod (Go.IntKind.wrap .u64 f) 104)) 30 0 20000 10 100 60 3 0 0) = 100) then
                        k (.bool (decide (Go.IntKind.wrap .i64 (Int.tmod (Go.IntKind.wrap .u64 b) 104) = 0) == !decide (Go.IntKind.wrap .i64 (Int.tmod (Go.IntKind.wrap .u64 b) 104) = 100))) ([])
                      else
                        k (.bool (decide (Go.IntKind.wrap .i64 (Int.tmod (Go.IntKind.wrap .u64 b) 104) = 0) == false)) ([])
                    else
                      k (.bool false) ([])
              else
                k (.bool false) ([])
            else
              k (.bool false) ([])
        else
          bif S.q_may (Cf.mk 10000 700 60 6 1 2000 10000 2000 (Go.IntKind.wrap .i64 (Int.tmod (Go.IntKind.wrap .u64 a) 104)) (Go.IntKind.wrap .i64 (Int.tmod (Go.IntKind.wrap .u64 b) 104)) (Go.IntKind.wrap .i64 (Int.tmod (Go.IntKind.wrap .u64 f) 104)) 30 0 20000 10 100 60 3 0 0) == false then
            bif (Array.toList (ByteArray.data (S.q_wrong (Cf.mk 10000 700 60 6 1 2000 10000 2000 (Go.IntKind.wrap .i64 (Int.tmod (Go.IntKind.wrap .u64 a) 104)) (Go.IntKind.wrap .i64 (Int.tmod (Go.IntKind.wrap .u64 b) 104)) (Go.IntKind.wrap .i64 (Int.tmod (Go.IntKind.wrap .u64 f) 104)) 30 0 20000 10 100 60 3 0 0))) == Array.toList (ByteArray.data (bs []))) == false then
              bif Array.toList (ByteArray.data (S.q_wrong (Cf.mk 10000 700 60 6 1 2000 10000 2000 (Go.IntKind.wrap .i64 (Int.tmod (Go.IntKind.wrap .u64 a) 104)) (Go.IntKind.wrap .i64 (Int.tmod (Go.IntKind.wrap .u64 b) 104)) (Go.IntKind.wrap .i64 (Int.tmod (Go.IntKind.wrap .u64 f) 104)) 30 0 20000 10 100 60 3 0 0))) == Array.toList (ByteArray.data (bs [109, 105, 110])) then
                bif decide (S.cmost (Cf.mk 10000 700 60 6 1 2000 10000 2000 (Go.IntKind.wrap .i64 (Int.tmod (Go.IntKind.wrap .u64 a) 104)) (Go.IntKind.wrap .i64 (Int.tmod (Go.IntKind.wrap .u64 b) 104)) (Go.IntKind.wrap .i64 (Int.tmod (Go.IntKind.wrap .u64 f) 104)) 30 0 20000 10 100 60 3 0 0) = 100) then
                  k (.bool (decide (Go.IntKind.wrap .i64 (Int.tmod (Go.IntKind.wrap .u64 b) 104) = 0) == !decide (Go.IntKind.wrap .i64 (Int.tmod (Go.IntKind.wrap .u64 b) 104) = 100))) ([])
                else
                  k (.bool (decide (Go.IntKind.wrap .i64 (Int.tmod (Go.IntKind.wrap .u64 b) 104) = 0) == false)) ([])
              else
                bif Array.toList (ByteArray.data (S.q_wrong (Cf.mk 10000 700 60 6 1 2000 10000 2000 (Go.IntKind.wrap .i64 (Int.tmod (Go.IntKind.wrap .u64 a) 104)) (Go.IntKind.wrap .i64 (Int.tmod (Go.IntKind.wrap .u64 b) 104)) (Go.IntKind.wrap .i64 (Int.tmod (Go.IntKind.wrap .u64 f) 104)) 30 0 20000 10 100 60 3 0 0))) == Array.toList (ByteArray.data (bs [109, 97, 120])) then
                  bif decide (S.cmost (Cf.mk 10000 700 60 6 1 2000 10000 2000 (Go.IntKind.wrap .i64 (Int.tmod (Go.IntKind.wrap .u64 a) 104)) (Go.IntKind.wrap .i64 (Int.tmod (Go.IntKind.wrap .u64 b) 104)) (Go.IntKind.wrap .i64 (Int.tmod (Go.IntKind.wrap .u64 f) 104)) 30 0 20000 10 100 60 3 0 0) = 100) then
                    k (.bool (decide (Go.IntKind.wrap .i64 (Int.tmod (Go.IntKind.wrap .u64 b) 104) = 0) == !decide (Go.IntKind.wrap .i64 (Int.tmod (Go.IntKind.wrap .u64 b) 104) = 100))) ([])
                  else
                    k (.bool (decide (Go.IntKind.wrap .i64 (Int.tmod (Go.IntKind.wrap .u64 b) 104) = 0) == false)) ([])
                else
                  bif Array.toList (ByteArray.data (S.q_wrong (Cf.mk 10000 700 60 6 1 2000 10000 2000 (Go.IntKind.wrap .i64 (Int.tmod (Go.IntKind.wrap .u64 a) 104)) (Go.IntKind.wrap .i64 (Int.tmod (Go.IntKind.wrap .u64 b) 104)) (Go.IntKind.wrap .i64 (Int.tmod (Go.IntKind.wrap .u64 f) 104)) 30 0 20000 10 100 60 3 0 0))) == Array.toList (ByteArray.data (bs [105, 110, 105, 116, 105, 97, 108])) then
                    bif decide (S.cmost (Cf.mk 10000 700 60 6 1 2000 10000 2000 (Go.IntKind.wrap .i64 (Int.tmod (Go.IntKind.wrap .u64 a) 104)) (Go.IntKind.wrap .i64 (Int.tmod (Go.IntKind.wrap .u64 b) 104)) (Go.IntKind.wrap .i64 (Int.tmod (Go.IntKind.wrap .u64 f) 104)) 30 0 20000 10 100 60 3 0 0) = 100) then
                      k (.bool (decide (Go.IntKind.wrap .i64 (Int.tmod (Go.IntKind.wrap .u64 b) 104) = 0) == !decide (Go.IntKind.wrap .i64 (Int.tmod (Go.IntKind.wrap .u64 b) 104) = 100))) ([])
                    else
                      k (.bool (decide (Go.IntKind.wrap .i64 (Int.tmod (Go.IntKind.wrap .u64 b) 104) = 0) == false)) ([])
                  else
                    k (.bool false) ([])
            else
              k (.bool false) ([])
          else
            k (.bool false) ([])
      else
        bif S.q_may (Cf.mk 10000 700 60 6 1 2000 10000 2000 (Go.IntKind.wrap .i64 (Int.tmod (Go.IntKind.wrap .u64 a) 104)) (Go.IntKind.wrap .i64 (Int.tmod (Go.IntKind.wrap .u64 b) 104)) (Go.IntKind.wrap .i64 (Int.tmod (Go.IntKind.wrap .u64 f) 104)) 30 0 20000 10 100 60 3 0 0) == false then
          bif (Array.toList (ByteArray.data (S.q_wrong (Cf.mk 10000 700 60 6 1 2000 10000 2000 (Go.IntKind.wrap .i64 (Int.tmod (Go.IntKind.wrap .u64 a) 104)) (Go.IntKind.wrap .i64 (Int.tmod (Go.IntKind.wrap .u64 b) 104)) (Go.IntKind.wrap .i64 (Int.tmod (Go.IntKind.wrap .u64 f) 104)) 30 0 20000 10 100 60 3 0 0))) == Array.toList (ByteArray.data (bs []))) == false then
            bif Array.toList (ByteArray.data (S.q_wrong (Cf.mk 10000 700 60 6 1 2000 10000 2000 (Go.IntKind.wrap .i64 (Int.tmod (Go.IntKind.wrap .u64 a) 104)) (Go.IntKind.wrap .i64 (Int.tmod (Go.IntKind.wrap .u64 b) 104)) (Go.IntKind.wrap .i64 (Int.tmod (Go.IntKind.wrap .u64 f) 104)) 30 0 20000 10 100 60 3 0 0))) == Array.toList (ByteArray.data (bs [109, 105, 110])) then
              bif decide (S.cmost (Cf.mk 10000 700 60 6 1 2000 10000 2000 (Go.IntKind.wrap .i64 (Int.tmod (Go.IntKind.wrap .u64 a) 104)) (Go.IntKind.wrap .i64 (Int.tmod (Go.IntKind.wrap .u64 b) 104)) (Go.IntKind.wrap .i64 (Int.tmod (Go.IntKind.wrap .u64 f) 104)) 30 0 20000 10 100 60 3 0 0) = 100) then
                k (.bool (decide (Go.IntKind.wrap .i64 (Int.tmod (Go.IntKind.wrap .u64 b) 104) = 0) == !decide (Go.IntKind.wrap .i64 (Int.tmod (Go.IntKind.wrap .u64 b) 104) = 100))) ([])
              else
                k (.bool (decide (Go.IntKind.wrap .i64 (Int.tmod (Go.IntKind.wrap .u64 b) 104) = 0) == false)) ([])
            else
              bif Array.toList (ByteArray.data (S.q_wrong (Cf.mk 10000 700 60 6 1 2000 10000 2000 (Go.IntKind.wrap .i64 (Int.tmod (Go.IntKind.wrap .u64 a) 104)) (Go.IntKind.wrap .i64 (Int.tmod (Go.IntKind.wrap .u64 b) 104)) (Go.IntKind.wrap .i64 (Int.tmod (Go.IntKind.wrap .u64 f) 104)) 30 0 20000 10 100 60 3 0 0))) == Array.toList (ByteArray.data (bs [109, 97, 120])) then
                bif decide (S.cmost (Cf.mk 10000 700 60 6 1 2000 10000 2000 (Go.IntKind.wrap .i64 (Int.tmod (Go.IntKind.wrap .u64 a) 104)) (Go.IntKind.wrap .i64 (Int.tmod (Go.IntKind.wrap .u64 b) 104)) (Go.IntKind.wrap .i64 (Int.tmod (Go.IntKind.wrap .u64 f) 104)) 30 0 20000 10 100 60 3 0 0) = 100) then
                  k (.bool (decide (Go.IntKind.wrap .i64 (Int.tmod (Go.IntKind.wrap .u64 b) 104) = 0) == !decide (Go.IntKind.wrap .i64 (Int.tmod (Go.IntKind.wrap .u64 b) 104) = 100))) ([])
                else
                  k (.bool (decide (Go.IntKind.wrap .i64 (Int.tmod (Go.IntKind.wrap .u64 b) 104) = 0) == false)) ([])
              else
                bif Array.toList (ByteArray.data (S.q_wrong (Cf.mk 10000 700 60 6 1 2000 10000 2000 (Go.IntKind.wrap .i64 (Int.tmod (Go.IntKind.wrap .u64 a) 104)) (Go.IntKind.wrap .i64 (Int.tmod (Go.IntKind.wrap .u64 b) 104)) (Go.IntKind.wrap .i64 (Int.tmod (Go.IntKind.wrap .u64 f) 104)) 30 0 20000 10 100 60 3 0 0))) == Array.toList (ByteArray.data (bs [105, 110, 105, 116, 105, 97, 108])) then
                  bif decide (S.cmost (Cf.mk 10000 700 60 6 1 2000 10000 2000 (Go.IntKind.wrap .i64 (Int.tmod (Go.IntKind.wrap .u64 a) 104)) (Go.IntKind.wrap .i64 (Int.tmod (Go.IntKind.wrap .u64 b) 104)) (Go.IntKind.wrap .i64 (Int.tmod (Go.IntKind.wrap .u64 f) 104)) 30 0 20000 10 100 60 3 0 0) = 100) then
                    k (.bool (decide (Go.IntKind.wrap .i64 (Int.tmod (Go.IntKind.wrap .u64 b) 104) = 0) == !decide (Go.IntKind.wrap .i64 (Int.tmod (Go.IntKind.wrap .u64 b) 104) = 100))) ([])
                  else
                    k (.bool (decide (Go.IntKind.wrap .i64 (Int.tmod (Go.IntKind.wrap .u64 b) 104) = 0) == false)) ([])
                else
                  k (.bool false) ([])
          else
            k (.bool false) ([])
        else
          k (.bool false) ([])
  else
    bif S.q_may (Cf.mk 10000 700 60 6 1 2000 10000 2000 (Go.IntKind.wrap .i64 (Int.tmod (Go.IntKind.wrap .u64 a) 104)) (Go.IntKind.wrap .i64 (Int.tmod (Go.IntKind.wrap .u64 b) 104)) (Go.IntKind.wrap .i64 (Int.tmod (Go.IntKind.wrap .u64 f) 104)) 30 0 20000 10 100 60 3 0 0) == false then
      bif (Array.toList (ByteArray.data (S.q_wrong (Cf.mk 10000 700 60 6 1 2000 10000 2000 (Go.IntKind.wrap .i64 (Int.tmod (Go.IntKind.wrap .u64 a) 104)) (Go.IntKind.wrap .i64 (Int.tmod (Go.IntKind.wrap .u64 b) 104)) (Go.IntKind.wrap .i64 (Int.tmod (Go.IntKind.wrap .u64 f) 104)) 30 0 20000 10 100 60 3 0 0))) == Array.toList (ByteArray.data (bs []))) == false then
        bif Array.toList (ByteArray.data (S.q_wrong (Cf.mk 10000 700 60 6 1 2000 10000 2000 (Go.IntKind.wrap .i64 (Int.tmod (Go.IntKind.wrap .u64 a) 104)) (Go.IntKind.wrap .i64 (Int.tmod (Go.IntKind.wrap .u64 b) 104)) (Go.IntKind.wrap .i64 (Int.tmod (Go.IntKind.wrap .u64 f) 104)) 30 0 20000 10 100 60 3 0 0))) == Array.toList (ByteArray.data (bs [109, 105, 110])) then
          bif decide (S.cmost (Cf.mk 10000 700 60 6 1 2000 10000 2000 (Go.IntKind.wrap .i64 (Int.tmod (Go.IntKind.wrap .u64 a) 104)) (Go.IntKind.wrap .i64 (Int.tmod (Go.IntKind.wrap .u64 b) 104)) (Go.IntKind.wrap .i64 (Int.tmod (Go.IntKind.wrap .u64 f) 104)) 30 0 20000 10 100 60 3 0 0) = 100) then
            k (.bool (decide (Go.IntKind.wrap .i64 (Int.tmod (Go.IntKind.wrap .u64 b) 104) = 0) == !decide (Go.IntKind.wrap .i64 (Int.tmod (Go.IntKind.wrap .u64 b) 104) = 100))) ([])
          else
            k (.bool (decide (Go.IntKind.wrap .i64 (Int.tmod (Go.IntKind.wrap .u64 b) 104) = 0) == false)) ([])
        else
          bif Array.toList (ByteArray.data (S.q_wrong (Cf.mk 10000 700 60 6 1 2000 10000 2000 (Go.IntKind.wrap .i64 (Int.tmod (Go.IntKind.wrap .u64 a) 104)) (Go.IntKind.wrap .i64 (Int.tmod (Go.IntKind.wrap .u64 b) 104)) (Go.IntKind.wrap .i64 (Int.tmod (Go.IntKind.wrap .u64 f) 104)) 30 0 20000 10 100 60 3 0 0))) == Array.toList (ByteArray.data (bs [109, 97, 120])) then
            bif decide (S.cmost (Cf.mk 10000 700 60 6 1 2000 10000 2000 (Go.IntKind.wrap .i64 (Int.tmod (Go.IntKind.wrap .u64 a) 104)) (Go.IntKind.wrap .i64 (Int.tmod (Go.IntKind.wrap .u64 b) 104)) (Go.IntKind.wrap .i64 (Int.tmod (Go.IntKind.wrap .u64 f) 104)) 30 0 20000 10 100 60 3 0 0) = 100) then
              k (.bool (decide (Go.IntKind.wrap .i64 (Int.tmod (Go.IntKind.wrap .u64 b) 104) = 0) == !decide (Go.IntKind.wrap .i64 (Int.tmod (Go.IntKind.wrap .u64 b) 104) = 100))) ([])
            else
              k (.bool (decide (Go.IntKind.wrap .i64 (Int.tmod (Go.IntKind.wrap .u64 b) 104) = 0) == false)) ([])
          else
            bif Array.toList (ByteArray.data (S.q_wrong (Cf.mk 10000 700 60 6 1 2000 10000 2000 (Go.IntKind.wrap .i64 (Int.tmod (Go.IntKind.wrap .u64 a) 104)) (Go.IntKind.wrap .i64 (Int.tmod (Go.IntKind.wrap .u64 b) 104)) (Go.IntKind.wrap .i64 (Int.tmod (Go.IntKind.wrap .u64 f) 104)) 30 0 20000 10 100 60 3 0 0))) == Array.toList (ByteArray.data (bs [105, 110, 105, 116, 105, 97, 108])) then
              bif decide (S.cmost (Cf.mk 10000 700 60 6 1 2000 10000 2000 (Go.IntKind.wrap .i64 (Int.tmod (Go.IntKind.wrap .u64 a) 104)) (Go.IntKind.wrap .i64 (Int.tmod (Go.IntKind.wrap .u64 b) 104)) (Go.IntKind.wrap .i64 (Int.tmod (Go.IntKind.wrap .u64 f) 104)) 30 0 20000 10 100 60 3 0 0) = 100) then
                k (.bool (decide (Go.IntKind.wrap .i64 (Int.tmod (Go.IntKind.wrap .u64 b) 104) = 0) == !decide (Go.IntKind.wrap .i64 (Int.tmod (Go.IntKind.wrap .u64 b) 104) = 100))) ([])
              else
                k (.bool (decide (Go.IntKind.wrap .i64 (Int.tmod (Go.IntKind.wrap .u64 b) 104) = 0) == false)) ([])
            else
              k (.bool false) ([])
      else
        k (.bool false) ([])
    else
      k (.bool false) ([])) := by kernel_rfl
noncomputable def S.ConfMost (a b f : Int) : Bool :=
  bif decide (Go.IntKind.wrap .i64 (Int.tmod (Go.IntKind.wrap .u64 a) 104) ≤ 100) then
    bif decide (Go.IntKind.wrap .i64 (Int.tmod (Go.IntKind.wrap .u64 b) 104) = 0) then
      bif decide (Go.IntKind.wrap .i64 (Int.tmod (Go.IntKind.wrap .u64 f) 104) ≤ 100) then
        bif S.q_may (Cf.mk 10000 700 60 6 1 2000 10000 2000 (Go.IntKind.wrap .i64 (Int.tmod (Go.IntKind.wrap .u64 a) 104)) (Go.IntKind.wrap .i64 (Int.tmod (Go.IntKind.wrap .u64 b) 104)) (Go.IntKind.wrap .i64 (Int.tmod (Go.IntKind.wrap .u64 f) 104)) 30 0 20000 10 100 60 3 0 0) == true then
          bif (Array.toList (ByteArray.data (S.q_wrong (Cf.mk 10000 700 60 6 1 2000 10000 2000 (Go.IntKind.wrap .i64 (Int.tmod (Go.IntKind.wrap .u64 a) 104)) (Go.IntKind.wrap .i64 (Int.tmod (Go.IntKind.wrap .u64 b) 104)) (Go.IntKind.wrap .i64 (Int.tmod (Go.IntKind.wrap .u64 f) 104)) 30 0 20000 10 100 60 3 0 0))) == Array.toList (ByteArray.data (bs []))) == true then
            bif decide (S.cmost (Cf.mk 10000 700 60 6 1 2000 10000 2000 (Go.IntKind.wrap .i64 (Int.tmod (Go.IntKind.wrap .u64 a) 104)) (Go.IntKind.wrap .i64 (Int.tmod (Go.IntKind.wrap .u64 b) 104)) (Go.IntKind.wrap .i64 (Int.tmod (Go.IntKind.wrap .u64 f) 104)) 30 0 20000 10 100 60 3 0 0) = 100) then
              (decide (Go.IntKind.wrap .i64 (Int.tmod (Go.IntKind.wrap .u64 b) 104) = 0) == !decide (Go.IntKind.wrap .i64 (Int.tmod (Go.IntKind.wrap .u64 b) 104) = 100))
            else
              (decide (Go.IntKind.wrap .i64 (Int.tmod (Go.IntKind.wrap .u64 b) 104) = 0) == false)
          else
            (false)
        else
          (false)
      else
        bif decide (1 ≤ Go.IntKind.wrap .i64 (Int.tmod (Go.IntKind.wrap .u64 b) 104)) then
          bif decide (Go.IntKind.wrap .i64 (Int.tmod (Go.IntKind.wrap .u64 b) 104) ≤ 100) then
            bif decide (Go.IntKind.wrap .i64 (Int.tmod (Go.IntKind.wrap .u64 a) 104) ≤ Go.IntKind.wrap .i64 (Int.tmod (Go.IntKind.wrap .u64 b) 104)) then
              bif S.q_may (Cf.mk 10000 700 60 6 1 2000 10000 2000 (Go.IntKind.wrap .i64 (Int.tmod (Go.IntKind.wrap .u64 a) 104)) (Go.IntKind.wrap .i64 (Int.tmod (Go.IntKind.wrap .u64 b) 104)) (Go.IntKind.wrap .i64 (Int.tmod (Go.IntKind.wrap .u64 f) 104)) 30 0 20000 10 100 60 3 0 0) == decide (Go.IntKind.wrap .i64 (Int.tmod (Go.IntKind.wrap .u64 f) 104) ≤ Go.IntKind.wrap .i64 (Int.tmod (Go.IntKind.wrap .u64 b) 104)) then
                bif (Array.toList (ByteArray.data (S.q_wrong (Cf.mk 10000 700 60 6 1 2000 10000 2000 (Go.IntKind.wrap .i64 (Int.tmod (Go.IntKind.wrap .u64 a) 104)) (Go.IntKind.wrap .i64 (Int.tmod (Go.IntKind.wrap .u64 b) 104)) (Go.IntKind.wrap .i64 (Int.tmod (Go.IntKind.wrap .u64 f) 104)) 30 0 20000 10 100 60 3 0 0))) == Array.toList (ByteArray.data (bs []))) == decide (Go.IntKind.wrap .i64 (Int.tmod (Go.IntKind.wrap .u64 f) 104) ≤ Go.IntKind.wrap .i64 (Int.tmod (Go.IntKind.wrap .u64 b) 104)) then
                  bif decide (Go.IntKind.wrap .i64 (Int.tmod (Go.IntKind.wrap .u64 f) 104) ≤ Go.IntKind.wrap .i64 (Int.tmod (Go.IntKind.wrap .u64 b) 104)) then
                    bif decide (S.cmost (Cf.mk 10000 700 60 6 1 2000 10000 2000 (Go.IntKind.wrap .i64 (Int.tmod (Go.IntKind.wrap .u64 a) 104)) (Go.IntKind.wrap .i64 (Int.tmod (Go.IntKind.wrap .u64 b) 104)) (Go.IntKind.wrap .i64 (Int.tmod (Go.IntKind.wrap .u64 f) 104)) 30 0 20000 10 100 60 3 0 0) = 100) then
                      (decide (Go.IntKind.wrap .i64 (Int.tmod (Go.IntKind.wrap .u64 b) 104) = 0) == !decide (Go.IntKind.wrap .i64 (Int.tmod (Go.IntKind.wrap .u64 b) 104) = 100))
                    else
                      (decide (Go.IntKind.wrap .i64 (Int.tmod (Go.IntKind.wrap .u64 b) 104) = 0) == false)
                  else
                    bif Array.toList (ByteArray.data (S.q_wrong (Cf.mk 10000 700 60 6 1 2000 10000 2000 (Go.IntKind.wrap .i64 (Int.tmod (Go.IntKind.wrap .u64 a) 104)) (Go.IntKind.wrap .i64 (Int.tmod (Go.IntKind.wrap .u64 b) 104)) (Go.IntKind.wrap .i64 (Int.tmod (Go.IntKind.wrap .u64 f) 104)) 30 0 20000 10 100 60 3 0 0))) == Array.toList (ByteArray.data (bs [109, 105, 110])) then
                      bif decide (S.cmost (Cf.mk 10000 700 60 6 1 2000 10000 2000 (Go.IntKind.wrap .i64 (Int.tmod (Go.IntKind.wrap .u64 a) 104)) (Go.IntKind.wrap .i64 (Int.tmod (Go.IntKind.wrap .u64 b) 104)) (Go.IntKind.wrap .i64 (Int.tmod (Go.IntKind.wrap .u64 f) 104)) 30 0 20000 10 100 60 3 0 0) = 100) then
                        (decide (Go.IntKind.wrap .i64 (Int.tmod (Go.IntKind.wrap .u64 b) 104) = 0) == !decide (Go.IntKind.wrap .i64 (Int.tmod (Go.IntKind.wrap .u64 b) 104) = 100))
                      else
                        (decide (Go.IntKind.wrap .i64 (Int.tmod (Go.IntKind.wrap .u64 b) 104) = 0) == false)
                    else
                      bif Array.toList (ByteArray.data (S.q_wrong (Cf.mk 10000 700 60 6 1 2000 10000 2000 (Go.IntKind.wrap .i64 (Int.tmod (Go.IntKind.wrap .u64 a) 104)) (Go.IntKind.wrap .i64 (Int.tmod (Go.IntKind.wrap .u64 b) 104)) (Go.IntKind.wrap .i64 (Int.tmod (Go.IntKind.wrap .u64 f) 104)) 30 0 20000 10 100 60 3 0 0))) == Array.toList (ByteArray.data (bs [109, 97, 120])) then
                        bif decide (S.cmost (Cf.mk 10000 700 60 6 1 2000 10000 2000 (Go.IntKind.wrap .i64 (Int.tmod (Go.IntKind.wrap .u64 a) 104)) (Go.IntKind.wrap .i64 (Int.tmod (Go.IntKind.wrap .u64 b) 104)) (Go.IntKind.wrap .i64 (Int.tmod (Go.IntKind.wrap .u64 f) 104)) 30 0 20000 10 100 60 3 0 0) = 100) then
                          (decide (Go.IntKind.wrap .i64 (Int.tmod (Go.IntKind.wrap .u64 b) 104) = 0) == !decide (Go.IntKind.wrap .i64 (Int.tmod (Go.IntKind.wrap .u64 b) 104) = 100))
                        else
                          (decide (Go.IntKind.wrap .i64 (Int.tmod (Go.IntKind.wrap .u64 b) 104) = 0) == false)
                      else
                        bif Array.toList (ByteArray.data (S.q_wrong (Cf.mk 10000 700 60 6 1 2000 10000 2000 (Go.IntKind.wrap .i64 (Int.tmod (Go.IntKind.wrap .u64 a) 104)) (Go.IntKind.wrap .i64 (Int.tmod (Go.IntKind.wrap .u64 b) 104)) (Go.IntKind.wrap .i64 (Int.tmod (Go.IntKind.wrap .u64 f) 104)) 30 0 20000 10 100 60 3 0 0))) == Array.toList (ByteArray.data (bs [105, 110, 105, 116, 105, 97, 108])) then
                          bif decide (S.cmost (Cf.mk 10000 700 60 6 1 2000 10000 2000 (Go.IntKind.wrap .i64 (Int.tmod (Go.IntKind.wrap .u64 a) 104)) (Go.IntKind.wrap .i64 (Int.tmod (Go.IntKind.wrap .u64 b) 104)) (Go.IntKind.wrap .i64 (Int.tmod (Go.IntKind.wrap .u64 f) 104)) 30 0 20000 10 100 60 3 0 0) = 100) then
                            (decide (Go.IntKind.wrap .i64 (Int.tmod (Go.IntKind.wrap .u64 b) 104) = 0) == !decide (Go.IntKind.wrap .i64 (Int.tmod (Go.IntKind.wrap .u64 b) 104) = 100))
                          else
                            (decide (Go.IntKind.wrap .i64 (Int.tmod (Go.IntKind.wrap .u64 b) 104) = 0) == false)
                        else
                          (false)
                else
                  (false)
              else
                (false)
            else
              bif S.q_may (Cf.mk 10000 700 60 6 1 2000 10000 2000 (Go.IntKind.wrap .i64 (Int.tmod (Go.IntKind.wrap .u64 a) 104)) (Go.IntKind.wrap .i64 (Int.tmod (Go.IntKind.wrap .u64 b) 104)) (Go.IntKind.wrap .i64 (Int.tmod (Go.IntKind.wrap .u64 f) 104)) 30 0 20000 10 100 60 3 0 0) == false then
                bif (Array.toList (ByteArray.data (S.q_wrong (Cf.mk 10000 700 60 6 1 2000 10000 2000 (Go.IntKind.wrap .i64 (Int.tmod (Go.IntKind.wrap .u64 a) 104)) (Go.IntKind.wrap .i64 (Int.tmod (Go.IntKind.wrap .u64 b) 104)) (Go.IntKind.wrap .i64 (Int.tmod (Go.IntKind.wrap .u64 f) 104)) 30 0 20000 10 100 60 3 0 0))) == Array.toList (ByteArray.data (bs []))) == false then
                  bif Array.toList (ByteArray.data (S.q_wrong (Cf.mk 10000 700 60 6 1 2000 10000 2000 (Go.IntKind.wrap .i64 (Int.tmod (Go.IntKind.wrap .u64 a) 104)) (Go.IntKind.wrap .i64 (Int.tmod (Go.IntKind.wrap .u64 b) 104)) (Go.IntKind.wrap .i64 (Int.tmod (Go.IntKind.wrap .u64 f) 104)) 30 0 20000 10 100 60 3 0 0))) == Array.toList (ByteArray.data (bs [109, 105, 110])) then
                    bif decide (S.cmost (Cf.mk 10000 700 60 6 1 2000 10000 2000 (Go.IntKind.wrap .i64 (Int.tmod (Go.IntKind.wrap .u64 a) 104)) (Go.IntKind.wrap .i64 (Int.tmod (Go.IntKind.wrap .u64 b) 104)) (Go.IntKind.wrap .i64 (Int.tmod (Go.IntKind.wrap .u64 f) 104)) 30 0 20000 10 100 60 3 0 0) = 100) then
                      (decide (Go.IntKind.wrap .i64 (Int.tmod (Go.IntKind.wrap .u64 b) 104) = 0) == !decide (Go.IntKind.wrap .i64 (Int.tmod (Go.IntKind.wrap .u64 b) 104) = 100))
                    else
                      (decide (Go.IntKind.wrap .i64 (Int.tmod (Go.IntKind.wrap .u64 b) 104) = 0) == false)
                  else
                    bif Array.toList (ByteArray.data (S.q_wrong (Cf.mk 10000 700 60 6 1 2000 10000 2000 (Go.IntKind.wrap .i64 (Int.tmod (Go.IntKind.wrap .u64 a) 104)) (Go.IntKind.wrap .i64 (Int.tmod (Go.IntKind.wrap .u64 b) 104)) (Go.IntKind.wrap .i64 (Int.tmod (Go.IntKind.wrap .u64 f) 104)) 30 0 20000 10 100 60 3 0 0))) == Array.toList (ByteArray.data (bs [109, 97, 120])) then
                      bif decide (S.cmost (Cf.mk 10000 700 60 6 1 2000 10000 2000 (Go.IntKind.wrap .i64 (Int.tmod (Go.IntKind.wrap .u64 a) 104)) (Go.IntKind.wrap .i64 (Int.tmod (Go.IntKind.wrap .u64 b) 104)) (Go.IntKind.wrap .i64 (Int.tmod (Go.IntKind.wrap .u64 f) 104)) 30 0 20000 10 100 60 3 0 0) = 100) then
                        (decide (Go.IntKind.wrap .i64 (Int.tmod (Go.IntKind.wrap .u64 b) 104) = 0) == !decide (Go.IntKind.wrap .i64 (Int.tmod (Go.IntKind.wrap .u64 b) 104) = 100))
                      else
                        (decide (Go.IntKind.wrap .i64 (Int.tmod (Go.IntKind.wrap .u64 b) 104) = 0) == false)
                    else
                      bif Array.toList (ByteArray.data (S.q_wrong (Cf.mk 10000 700 60 6 1 2000 10000 2000 (Go.IntKind.wrap .i64 (Int.tmod (Go.IntKind.wrap .u64 a) 104)) (Go.IntKind.wrap .i64 (Int.tmod (Go.IntKind.wrap .u64 b) 104)) (Go.IntKind.wrap .i64 (Int.tmod (Go.IntKind.wrap .u64 f) 104)) 30 0 20000 10 100 60 3 0 0))) == Array.toList (ByteArray.data (bs [105, 110, 105, 116, 105, 97, 108])) then
                        bif decide (S.cmost (Cf.mk 10000 700 60 6 1 2000 10000 2000 (Go.IntKind.wrap .i64 (Int.tmod (Go.IntKind.wrap .u64 a) 104)) (Go.IntKind.wrap .i64 (Int.tmod (Go.IntKind.wrap .u64 b) 104)) (Go.IntKind.wrap .i64 (Int.tmod (Go.IntKind.wrap .u64 f) 104)) 30 0 20000 10 100 60 3 0 0) = 100) then
                          (decide (Go.IntKind.wrap .i64 (Int.tmod (Go.IntKind.wrap .u64 b) 104) = 0) == !decide (Go.IntKind.wrap .i64 (Int.tmod (Go.IntKind.wrap .u64 b) 104) = 100))
                        else
                          (decide (Go.IntKind.wrap .i64 (Int.tmod (Go.IntKind.wrap .u64 b) 104) = 0) == false)
                      else
                        (false)
                else
                  (false)
              else
                (false)
          else
            bif S.q_may (Cf.mk 10000 700 60 6 1 2000 10000 2000 (Go.IntKind.wrap .i64 (Int.tmod (Go.IntKind.wrap .u64 a) 104)) (Go.IntKind.wrap .i64 (Int.tmod (Go.IntKind.wrap .u64 b) 104)) (Go.IntKind.wrap .i64 (Int.tmod (Go.IntKind.wrap .u64 f) 104)) 30 0 20000 10 100 60 3 0 0) == false then
              bif (Array.toList (ByteArray.data (S.q_wrong (Cf.mk 10000 700 60 6 1 2000 10000 2000 (Go.IntKind.wrap .i64 (Int.tmod (Go.IntKind.wrap .u64 a) 104)) (Go.IntKind.wrap .i64 (Int.tmod (Go.IntKind.wrap .u64 b) 104)) (Go.IntKind.wrap .i64 (Int.tmod (Go.IntKind.wrap .u64 f) 104)) 30 0 20000 10 100 60 3 0 0))) == Array.toList (ByteArray.data (bs []))) == false then
                bif Array.toList (ByteArray.data (S.q_wrong (Cf.mk 10000 700 60 6 1 2000 10000 2000 (Go.IntKind.wrap .i64 (Int.tmod (Go.IntKind.wrap .u64 a) 104)) (Go.IntKind.wrap .i64 (Int.tmod (Go.IntKind.wrap .u64 b) 104)) (Go.IntKind.wrap .i64 (Int.tmod (Go.IntKind.wrap .u64 f) 104)) 30 0 20000 10 100 60 3 0 0))) == Array.toList (ByteArray.data (bs [109, 105, 110])) then
                  bif decide (S.cmost (Cf.mk 10000 700 60 6 1 2000 10000 2000 (Go.IntKind.wrap .i64 (Int.tmod (Go.IntKind.wrap .u64 a) 104)) (Go.IntKind.wrap .i64 (Int.tmod (Go.IntKind.wrap .u64 b) 104)) (Go.IntKind.wrap .i64 (Int.tmod (Go.IntKind.wrap .u64 f) 104)) 30 0 20000 10 100 60 3 0 0) = 100) then
                    (decide (Go.IntKind.wrap .i64 (Int.tmod (Go.IntKind.wrap .u64 b) 104) = 0) == !decide (Go.IntKind.wrap .i64 (Int.tmod (Go.IntKind.wrap .u64 b) 104) = 100))
                  else
                    (decide (Go.IntKind.wrap .i64 (Int.tmod (Go.IntKind.wrap .u64 b) 104) = 0) == false)
                else
                  bif Array.toList (ByteArray.data (S.q_wrong (Cf.mk 10000 700 60 6 1 2000 10000 2000 (Go.IntKind.wrap .i64 (Int.tmod (Go.IntKind.wrap .u64 a) 104)) (Go.IntKind.wrap .i64 (Int.tmod (Go.IntKind.wrap .u64 b) 104)) (Go.IntKind.wrap .i64 (Int.tmod (Go.IntKind.wrap .u64 f) 104)) 30 0 20000 10 100 60 3 0 0))) == Array.toList (ByteArray.data (bs [109, 97, 120])) then
                    bif decide (S.cmost (Cf.mk 10000 700 60 6 1 2000 10000 2000 (Go.IntKind.wrap .i64 (Int.tmod (Go.IntKind.wrap .u64 a) 104)) (Go.IntKind.wrap .i64 (Int.tmod (Go.IntKind.wrap .u64 b) 104)) (Go.IntKind.wrap .i64 (Int.tmod (Go.IntKind.wrap .u64 f) 104)) 30 0 20000 10 100 60 3 0 0) = 100) then
                      (decide (Go.IntKind.wrap .i64 (Int.tmod (Go.IntKind.wrap .u64 b) 104) = 0) == !decide (Go.IntKind.wrap .i64 (Int.tmod (Go.IntKind.wrap .u64 b) 104) = 100))
                    else
                      (decide (Go.IntKind.wrap .i64 (Int.tmod (Go.IntKind.wrap .u64 b) 104) = 0) == false)
                  else
                    bif Array.toList (ByteArray.data (S.q_wrong (Cf.mk 10000 700 60 6 1 2000 10000 2000 (Go.IntKind.wrap .i64 (Int.tmod (Go.IntKind.wrap .u64 a) 104)) (Go.IntKind.wrap .i64 (Int.tmod (Go.IntKind.wrap .u64 b) 104)) (Go.IntKind.wrap .i64 (Int.tmod (Go.IntKind.wrap .u64 f) 104)) 30 0 20000 10 100 60 3 0 0))) == Array.toList (ByteArray.data (bs [105, 110, 105, 116, 105, 97, 108])) then
                      bif decide (S.cmost (Cf.mk 10000 700 60 6 1 2000 10000 2000 (Go.IntKind.wrap .i64 (Int.tmod (Go.IntKind.wrap .u64 a) 104)) (Go.IntKind.wrap .i64 (Int.tmod (Go.IntKind.wrap .u64 b) 104)) (Go.IntKind.wrap .i64 (Int.tmod (Go.IntKind.wrap .u64 f) 104)) 30 0 20000 10 100 60 3 0 0) = 100) then
                        (decide (Go.IntKind.wrap .i64 (Int.tmod (Go.IntKind.wrap .u64 b) 104) = 0) == !decide (Go.IntKind.wrap .i64 (Int.tmod (Go.IntKind.wrap .u64 b) 104) = 100))
                      else
                        (decide (Go.IntKind.wrap .i64 (Int.tmod (Go.IntKind.wrap .u64 b) 104) = 0) == false)
                    else
                      (false)
              else
                (false)
            else
              (false)
        else
          bif S.q_may (Cf.mk 10000 700 60 6 1 2000 10000 2000 (Go.IntKind.wrap .i64 (Int.tmod (Go.IntKind.wrap .u64 a) 104)) (Go.IntKind.wrap .i64 (Int.tmod (Go.IntKind.wrap .u64 b) 104)) (Go.IntKind.wrap .i64 (Int.tmod (Go.IntKind.wrap .u64 f) 104)) 30 0 20000 10 100 60 3 0 0) == false then
            bif (Array.toList (ByteArray.data (S.q_wrong (Cf.mk 10000 700 60 6 1 2000 10000 2000 (Go.IntKind.wrap .i64 (Int.tmod (Go.IntKind.wrap .u64 a) 104)) (Go.IntKind.wrap .i64 (Int.tmod (Go.IntKind.wrap .u64 b) 104)) (Go.IntKind.wrap .i64 (Int.tmod (Go.IntKind.wrap .u64 f) 104)) 30 0 20000 10 100 60 3 0 0))) == Array.toList (ByteArray.data (bs []))) == false then
              bif Array.toList (ByteArray.data (S.q_wrong (Cf.mk 10000 700 60 6 1 2000 10000 2000 (Go.IntKind.wrap .i64 (Int.tmod (Go.IntKind.wrap .u64 a) 104)) (Go.IntKind.wrap .i64 (Int.tmod (Go.IntKind.wrap .u64 b) 104)) (Go.IntKind.wrap .i64 (Int.tmod (Go.IntKind.wrap .u64 f) 104)) 30 0 20000 10 100 60 3 0 0))) == Array.toList (ByteArray.data (bs [109, 105, 110])) then
                bif decide (S.cmost (Cf.mk 10000 700 60 6 1 2000 10000 2000 (Go.IntKind.wrap .i64 (Int.tmod (Go.IntKind.wrap .u64 a) 104)) (Go.IntKind.wrap .i64 (Int.tmod (Go.IntKind.wrap .u64 b) 104)) (Go.IntKind.wrap .i64 (Int.tmod (Go.IntKind.wrap .u64 f) 104)) 30 0 20000 10 100 60 3 0 0) = 100) then
                  (decide (Go.IntKind.wrap .i64 (Int.tmod (Go.IntKind.wrap .u64 b) 104) = 0) == !decide (Go.IntKind.wrap .i64 (Int.tmod (Go.IntKind.wrap .u64 b) 104) = 100))
                else
                  (decide (Go.IntKind.wrap .i64 (Int.tmod (Go.IntKind.wrap .u64 b) 104) = 0) == false)
              else
                bif Array.toList (ByteArray.data (S.q_wrong (Cf.mk 10000 700 60 6 1 2000 10000 2000 (Go.IntKind.wrap .i64 (Int.tmod (Go.IntKind.wrap .u64 a) 104)) (Go.IntKind.wrap .i64 (Int.tmod (Go.IntKind.wrap .u64 b) 104)) (Go.IntKind.wrap .i64 (Int.tmod (Go.IntKind.wrap .u64 f) 104)) 30 0 20000 10 100 60 3 0 0))) == Array.toList (ByteArray.data (bs [109, 97, 120])) then
                  bif decide (S.cmost (Cf.mk 10000 700 60 6 1 2000 10000 2000 (Go.IntKind.wrap .i64 (Int.tmod (Go.IntKind.wrap .u64 a) 104)) (Go.IntKind.wrap .i64 (Int.tmod (Go.IntKind.wrap .u64 b) 104)) (Go.IntKind.wrap .i64 (Int.tmod (Go.IntKind.wrap .u64 f) 104)) 30 0 20000 10 100 60 3 0 0) = 100) then
                    (decide (Go.IntKind.wrap .i64 (Int.tmod (Go.IntKind.wrap .u64 b) 104) = 0) == !decide (Go.IntKind.wrap .i64 (Int.tmod (Go.IntKind.wrap .u64 b) 104) = 100))
                  else
                    (decide (Go.IntKind.wrap .i64 (Int.tmod (Go.IntKind.wrap .u64 b) 104) = 0) == false)
                else
                  bif Array.toList (ByteArray.data (S.q_wrong (Cf.mk 10000 700 60 6 1 2000 10000 2000 (Go.IntKind.wrap .i64 (Int.tmod (Go.IntKind.wrap .u64 a) 104)) (Go.IntKind.wrap .i64 (Int.tmod (Go.IntKind.wrap .u64 b) 104)) (Go.IntKind.wrap .i64 (Int.tmod (Go.IntKind.wrap .u64 f) 104)) 30 0 20000 10 100 60 3 0 0))) == Array.toList (ByteArray.data (bs [105, 110, 105, 116, 105, 97, 108])) then
                    bif decide (S.cmost (Cf.mk 10000 700 60 6 1 2000 10000 2000 (Go.IntKind.wrap .i64 (Int.tmod (Go.IntKind.wrap .u64 a) 104)) (Go.IntKind.wrap .i64 (Int.tmod (Go.IntKind.wrap .u64 b) 104)) (Go.IntKind.wrap .i64 (Int.tmod (Go.IntKind.wrap .u64 f) 104)) 30 0 20000 10 100 60 3 0 0) = 100) then
                      (decide (Go.IntKind.wrap .i64 (Int.tmod (Go.IntKind.wrap .u64 b) 104) = 0) == !decide (Go.IntKind.wrap .i64 (Int.tmod (Go.IntKind.wrap .u64 b) 104) = 100))
                    else
                      (decide (Go.IntKind.wrap .i64 (Int.tmod (Go.IntKind.wrap .u64 b) 104) = 0) == false)
                  else
                    (false)
            else
              (false)
          else
            (false)
    else
      bif decide (1 ≤ Go.IntKind.wrap .i64 (Int.tmod (Go.IntKind.wrap .u64 b) 104)) then
        bif decide (Go.IntKind.wrap .i64 (Int.tmod (Go.IntKind.wrap .u64 b) 104) ≤ 100) then
          bif decide (Go.IntKind.wrap .i64 (Int.tmod (Go.IntKind.wrap .u64 a) 104) ≤ Go.IntKind.wrap .i64 (Int.tmod (Go.IntKind.wrap .u64 b) 104)) then
            bif S.q_may (Cf.mk 10000 700 60 6 1 2000 10000 2000 (Go.IntKind.wrap .i64 (Int.tmod (Go.IntKind.wrap .u64 a) 104)) (Go.IntKind.wrap .i64 (Int.tmod (Go.IntKind.wrap .u64 b) 104)) (Go.IntKind.wrap .i64 (Int.tmod (Go.IntKind.wrap .u64 f) 104)) 30 0 20000 10 100 60 3 0 0) == decide (Go.IntKind.wrap .i64 (Int.tmod (Go.IntKind.wrap .u64 f) 104) ≤ Go.IntKind.wrap .i64 (Int.tmod (Go.IntKind.wrap .u64 b) 104)) then
              bif (Array.toList (ByteArray.data (S.q_wrong (Cf.mk 10000 700 60 6 1 2000 10000 2000 (Go.IntKind.wrap .i64 (Int.tmod (Go.IntKind.wrap .u64 a) 104)) (Go.IntKind.wrap .i64 (Int.tmod (Go.IntKind.wrap .u64 b) 104)) (Go.IntKind.wrap .i64 (Int.tmod (Go.IntKind.wrap .u64 f) 104)) 30 0 20000 10 100 60 3 0 0))) == Array.toList (ByteArray.data (bs []))) == decide (Go.IntKind.wrap .i64 (Int.tmod (Go.IntKind.wrap .u64 f) 104) ≤ Go.IntKind.wrap .i64 (Int.tmod (Go.IntKind.wrap .u64 b) 104)) then
                bif decide (Go.IntKind.wrap .i64 (Int.tmod (Go.IntKind.wrap .u64 f) 104) ≤ Go.IntKind.wrap .i64 (Int.tmod (Go.IntKind.wrap .u64 b) 104)) then
                  bif decide (S.cmost (Cf.mk 10000 700 60 6 1 2000 10000 2000 (Go.IntKind.wrap .i64 (Int.tmod (Go.IntKind.wrap .u64 a) 104)) (Go.IntKind.wrap .i64 (Int.tmod (Go.IntKind.wrap .u64 b) 104)) (Go.IntKind.wrap .i64 (Int.tmod (Go.IntKind.wrap .u64 f) 104)) 30 0 20000 10 100 60 3 0 0) = 100) then
                    (decide (Go.IntKind.wrap .i64 (Int.tmod (Go.IntKind.wrap .u64 b) 104) = 0) == !decide (Go.IntKind.wrap .i64 (Int.tmod (Go.IntKind.wrap .u64 b) 104) = 100))
                  else
                    (decide (Go.IntKind.wrap .i64 (Int.tmod (Go.IntKind.wrap .u64 b) 104) = 0) == false)
                else
                  bif Array.toList (ByteArray.data (S.q_wrong (Cf.mk 10000 700 60 6 1 2000 10000 2000 (Go.IntKind.wrap .i64 (Int.tmod (Go.IntKind.wrap .u64 a) 104)) (Go.IntKind.wrap .i64 (Int.tmod (Go.IntKind.wrap .u64 b) 104)) (Go.IntKind.wrap .i64 (Int.tmod (Go.IntKind.wrap .u64 f) 104)) 30 0 20000 10 100 60 3 0 0))) == Array.toList (ByteArray.data (bs [109, 105, 110])) then
                    bif decide (S.cmost (Cf.mk 10000 700 60 6 1 2000 10000 2000 (Go.IntKind.wrap .i64 (Int.tmod (Go.IntKind.wrap .u64 a) 104)) (Go.IntKind.wrap .i64 (Int.tmod (Go.IntKind.wrap .u64 b) 104)) (Go.IntKind.wrap .i64 (Int.tmod (Go.IntKind.wrap .u64 f) 104)) 30 0 20000 10 100 60 3 0 0) = 100) then
                      (decide (Go.IntKind.wrap .i64 (Int.tmod (Go.IntKind.wrap .u64 b) 104) = 0) == !decide (Go.IntKind.wrap .i64 (Int.tmod (Go.IntKind.wrap .u64 b) 104) = 100))
                    else
                      (decide (Go.IntKind.wrap .i64 (Int.tmod (Go.IntKind.wrap .u64 b) 104) = 0) == false)
                  else
                    bif Array.toList (ByteArray.data (S.q_wrong (Cf.mk 10000 700 60 6 1 2000 10000 2000 (Go.IntKind.wrap .i64 (Int.tmod (Go.IntKind.wrap .u64 a) 104)) (Go.IntKind.wrap .i64 (Int.tmod (Go.IntKind.wrap .u64 b) 104)) (Go.IntKind.wrap .i64 (Int.tmod (Go.IntKind.wrap .u64 f) 104)) 30 0 20000 10 100 60 3 0 0))) == Array.toList (ByteArray.data (bs [109, 97, 120])) then
                      bif decide (S.cmost (Cf.mk 10000 700 60 6 1 2000 10000 2000 (Go.IntKind.wrap .i64 (Int.tmod (Go.IntKind.wrap .u64 a) 104)) (Go.IntKind.wrap .i64 (Int.tmod (Go.IntKind.wrap .u64 b) 104)) (Go.IntKind.wrap .i64 (Int.tmod (Go.IntKind.wrap .u64 f) 104)) 30 0 20000 10 100 60 3 0 0) = 100) then
                        (decide (Go.IntKind.wrap .i64 (Int.tmod (Go.IntKind.wrap .u64 b) 104) = 0) == !decide (Go.IntKind.wrap .i64 (Int.tmod (Go.IntKind.wrap .u64 b) 104) = 100))
                      else
                        (decide (Go.IntKind.wrap .i64 (Int.tmod (Go.IntKind.wrap .u64 b) 104) = 0) == false)
                    else
                      bif Array.toList (ByteArray.data (S.q_wrong (Cf.mk 10000 700 60 6 1 2000 10000 2000 (Go.IntKind.wrap .i64 (Int.tmod (Go.IntKind.wrap .u64 a) 104)) (Go.IntKind.wrap .i64 (Int.tmod (Go.IntKind.wrap .u64 b) 104)) (Go.IntKind.wrap .i64 (Int.tmod (Go.IntKind.wrap .u64 f) 104)) 30 0 20000 10 100 60 3 0 0))) == Array.toList (ByteArray.data (bs [105, 110, 105, 116, 105, 97, 108])) then
                        bif decide (S.cmost (Cf.mk 10000 700 60 6 1 2000 10000 2000 (Go.IntKind.wrap .i64 (Int.tmod (Go.IntKind.wrap .u64 a) 104)) (Go.IntKind.wrap .i64 (Int.tmod (Go.IntKind.wrap .u64 b) 104)) (Go.IntKind.wrap .i64 (Int.tmod (Go.IntKind.wrap .u64 f) 104)) 30 0 20000 10 100 60 3 0 0) = 100) then
                          (decide (Go.IntKind.wrap .i64 (Int.tmod (Go.IntKind.wrap .u64 b) 104) = 0) == !decide (Go.IntKind.wrap .i64 (Int.tmod (Go.IntKind.wrap .u64 b) 104) = 100))
                        else
                          (decide (Go.IntKind.wrap .i64 (Int.tmod (Go.IntKind.wrap .u64 b) 104) = 0) == false)
                      else
                        (false)
              else
                (false)
            else
              (false)
          else
            bif S.q_may (Cf.mk 10000 700 60 6 1 2000 10000 2000 (Go.IntKind.wrap .i64 (Int.tmod (Go.IntKind.wrap .u64 a) 104)) (Go.IntKind.wrap .i64 (Int.tmod (Go.IntKind.wrap .u64 b) 104)) (Go.IntKind.wrap .i64 (Int.tmod (Go.IntKind.wrap .u64 f) 104)) 30 0 20000 10 100 60 3 0 0) == false then
              bif (Array.toList (ByteArray.data (S.q_wrong (Cf.mk 10000 700 60 6 1 2000 10000 2000 (Go.IntKind.wrap .i64 (Int.tmod (Go.IntKind.wrap .u64 a) 104)) (Go.IntKind.wrap .i64 (Int.tmod (Go.IntKind.wrap .u64 b) 104)) (Go.IntKind.wrap .i64 (Int.tmod (Go.IntKind.wrap .u64 f) 104)) 30 0 20000 10 100 60 3 0 0))) == Array.toList (ByteArray.data (bs []))) == false then
                bif Array.toList (ByteArray.data (S.q_wrong (Cf.mk 10000 700 60 6 1 2000 10000 2000 (Go.IntKind.wrap .i64 (Int.tmod (Go.IntKind.wrap .u64 a) 104)) (Go.IntKind.wrap .i64 (Int.tmod (Go.IntKind.wrap .u64 b) 104)) (Go.IntKind.wrap .i64 (Int.tmod (Go.IntKind.wrap .u64 f) 104)) 30 0 20000 10 100 60 3 0 0))) == Array.toList (ByteArray.data (bs [109, 105, 110])) then
                  bif decide (S.cmost (Cf.mk 10000 700 60 6 1 2000 10000 2000 (Go.IntKind.wrap .i64 (Int.tmod (Go.IntKind.wrap .u64 a) 104)) (Go.IntKind.wrap .i64 (Int.tmod (Go.IntKind.wrap .u64 b) 104)) (Go.IntKind.wrap .i64 (Int.tmod (Go.IntKind.wrap .u64 f) 104)) 30 0 20000 10 100 60 3 0 0) = 100) then
                    (decide (Go.IntKind.wrap .i64 (Int.tmod (Go.IntKind.wrap .u64 b) 104) = 0) == !decide (Go.IntKind.wrap .i64 (Int.tmod (Go.IntKind.wrap .u64 b) 104) = 100))
                  else
                    (decide (Go.IntKind.wrap .i64 (Int.tmod (Go.IntKind.wrap .u64 b) 104) = 0) == false)
                else
                  bif Array.toList (ByteArray.data (S.q_wrong (Cf.mk 10000 700 60 6 1 2000 10000 2000 (Go.IntKind.wrap .i64 (Int.tmod (Go.IntKind.wrap .u64 a) 104)) (Go.IntKind.wrap .i64 (Int.tmod (Go.IntKind.wrap .u64 b) 104)) (Go.IntKind.wrap .i64 (Int.tmod (Go.IntKind.wrap .u64 f) 104)) 30 0 20000 10 100 60 3 0 0))) == Array.toList (ByteArray.data (bs [109, 97, 120])) then
                    bif decide (S.cmost (Cf.mk 10000 700 60 6 1 2000 10000 2000 (Go.IntKind.wrap .i64 (Int.tmod (Go.IntKind.wrap .u64 a) 104)) (Go.IntKind.wrap .i64 (Int.tmod (Go.IntKind.wrap .u64 b) 104)) (Go.IntKind.wrap .i64 (Int.tmod (Go.IntKind.wrap .u64 f) 104)) 30 0 20000 10 100 60 3 0 0) = 100) then
                      (decide (Go.IntKind.wrap .i64 (Int.tmod (Go.IntKind.wrap .u64 b) 104) = 0) == !decide (Go.IntKind.wrap .i64 (Int.tmod (Go.IntKind.wrap .u64 b) 104) = 100))
                    else
                      (decide (Go.IntKind.wrap .i64 (Int.tmod (Go.IntKind.wrap .u64 b) 104) = 0) == false)
                  else
                    bif Array.toList (ByteArray.data (S.q_wrong (Cf.mk 10000 700 60 6 1 2000 10000 2000 (Go.IntKind.wrap .i64 (Int.tmod (Go.IntKind.wrap .u64 a) 104)) (Go.IntKind.wrap .i64 (Int.tmod (Go.IntKind.wrap .u64 b) 104)) (Go.IntKind.wrap .i64 (Int.tmod (Go.IntKind.wrap .u64 f) 104)) 30 0 20000 10 100 60 3 0 0))) == Array.toList (ByteArray.data (bs [105, 110, 105, 116, 105, 97, 108])) then
                      bif decide (S.cmost (Cf.mk 10000 700 60 6 1 2000 10000 2000 (Go.IntKind.wrap .i64 (Int.tmod (Go.IntKind.wrap .u64 a) 104)) (Go.IntKind.wrap .i64 (Int.tmod (Go.IntKind.wrap .u64 b) 104)) (Go.IntKind.wrap .i64 (Int.tmod (Go.IntKind.wrap .u64 f) 104)) 30 0 20000 10 100 60 3 0 0) = 100) then
                        (decide (Go.IntKind.wrap .i64 (Int.tmod (Go.IntKind.wrap .u64 b) 104) = 0) == !decide (Go.IntKind.wrap .i64 (Int.tmod (Go.IntKind.wrap .u64 b) 104) = 100))
                      else
                        (decide (Go.IntKind.wrap .i64 (Int.tmod (Go.IntKind.wrap .u64 b) 104) = 0) == false)
                    else
                      (false)
              else
                (false)
            else
              (false)
        else
          bif S.q_may (Cf.mk 10000 700 60 6 1 2000 10000 2000 (Go.IntKind.wrap .i64 (Int.tmod (Go.IntKind.wrap .u64 a) 104)) (Go.IntKind.wrap .i64 (Int.tmod (Go.IntKind.wrap .u64 b) 104)) (Go.IntKind.wrap .i64 (Int.tmod (Go.IntKind.wrap .u64 f) 104)) 30 0 20000 10 100 60 3 0 0) == false then
            bif (Array.toList (ByteArray.data (S.q_wrong (Cf.mk 10000 700 60 6 1 2000 10000 2000 (Go.IntKind.wrap .i64 (Int.tmod (Go.IntKind.wrap .u64 a) 104)) (Go.IntKind.wrap .i64 (Int.tmod (Go.IntKind.wrap .u64 b) 104)) (Go.IntKind.wrap .i64 (Int.tmod (Go.IntKind.wrap .u64 f) 104)) 30 0 20000 10 100 60 3 0 0))) == Array.toList (ByteArray.data (bs []))) == false then
              bif Array.toList (ByteArray.data (S.q_wrong (Cf.mk 10000 700 60 6 1 2000 10000 2000 (Go.IntKind.wrap .i64 (Int.tmod (Go.IntKind.wrap .u64 a) 104)) (Go.IntKind.wrap .i64 (Int.tmod (Go.IntKind.wrap .u64 b) 104)) (Go.IntKind.wrap .i64 (Int.tmod (Go.IntKind.wrap .u64 f) 104)) 30 0 20000 10 100 60 3 0 0))) == Array.toList (ByteArray.data (bs [109, 105, 110])) then
                bif decide (S.cmost (Cf.mk 10000 700 60 6 1 2000 10000 2000 (Go.IntKind.wrap .i64 (Int.tmod (Go.IntKind.wrap .u64 a) 104)) (Go.IntKind.wrap .i64 (Int.tmod (Go.IntKind.wrap .u64 b) 104)) (Go.IntKind.wrap .i64 (Int.tmod (Go.IntKind.wrap .u64 f) 104)) 30 0 20000 10 100 60 3 0 0) = 100) then
                  (decide (Go.IntKind.wrap .i64 (Int.tmod (Go.IntKind.wrap .u64 b) 104) = 0) == !decide (Go.IntKind.wrap .i64 (Int.tmod (Go.IntKind.wrap .u64 b) 104) = 100))
                else
                  (decide (Go.IntKind.wrap .i64 (Int.tmod (Go.IntKind.wrap .u64 b) 104) = 0) == false)
              else
                bif Array.toList (ByteArray.data (S.q_wrong (Cf.mk 10000 700 60 6 1 2000 10000 2000 (Go.IntKind.wrap .i64 (Int.tmod (Go.IntKind.wrap .u64 a) 104)) (Go.IntKind.wrap .i64 (Int.tmod (Go.IntKind.wrap .u64 b) 104)) (Go.IntKind.wrap .i64 (Int.tmod (Go.IntKind.wrap .u64 f) 104)) 30 0 20000 10 100 60 3 0 0))) == Array.toList (ByteArray.data (bs [109, 97, 120])) then
                  bif decide (S.cmost (Cf.mk 10000 700 60 6 1 2000 10000 2000 (Go.IntKind.wrap .i64 (Int.tmod (Go.IntKind.wrap .u64 a) 104)) (Go.IntKind.wrap .i64 (Int.tmod (Go.IntKind.wrap .u64 b) 104)) (Go.IntKind.wrap .i64 (Int.tmod (Go.IntKind.wrap .u64 f) 104)) 30 0 20000 10 100 60 3 0 0) = 100) then
                    (decide (Go.IntKind.wrap .i64 (Int.tmod (Go.IntKind.wrap .u64 b) 104) = 0) == !decide (Go.IntKind.wrap .i64 (Int.tmod (Go.IntKind.wrap .u64 b) 104) = 100))
                  else
                    (decide (Go.IntKind.wrap .i64 (Int.tmod (Go.IntKind.wrap .u64 b) 104) = 0) == false)
                else
                  bif Array.toList (ByteArray.data (S.q_wrong (Cf.mk 10000 700 60 6 1 2000 10000 2000 (Go.IntKind.wrap .i64 (Int.tmod (Go.IntKind.wrap .u64 a) 104)) (Go.IntKind.wrap .i64 (Int.tmod (Go.IntKind.wrap .u64 b) 104)) (Go.IntKind.wrap .i64 (Int.tmod (Go.IntKind.wrap .u64 f) 104)) 30 0 20000 10 100 60 3 0 0))) == Array.toList (ByteArray.data (bs [105, 110, 105, 116, 105, 97, 108])) then
                    bif decide (S.cmost (Cf.mk 10000 700 60 6 1 2000 10000 2000 (Go.IntKind.wrap .i64 (Int.tmod (Go.IntKind.wrap .u64 a) 104)) (Go.IntKind.wrap .i64 (Int.tmod (Go.IntKind.wrap .u64 b) 104)) (Go.IntKind.wrap .i64 (Int.tmod (Go.IntKind.wrap .u64 f) 104)) 30 0 20000 10 100 60 3 0 0) = 100) then
                      (decide (Go.IntKind.wrap .i64 (Int.tmod (Go.IntKind.wrap .u64 b) 104) = 0) == !decide (Go.IntKind.wrap .i64 (Int.tmod (Go.IntKind.wrap .u64 b) 104) = 100))
                    else
                      (decide (Go.IntKind.wrap .i64 (Int.tmod (Go.IntKind.wrap .u64 b) 104) = 0) == false)
                  else
                    (false)
            else
              (false)
          else
            (false)
      else
        bif S.q_may (Cf.mk 10000 700 60 6 1 2000 10000 2000 (Go.IntKind.wrap .i64 (Int.tmod (Go.IntKind.wrap .u64 a) 104)) (Go.IntKind.wrap .i64 (Int.tmod (Go.IntKind.wrap .u64 b) 104)) (Go.IntKind.wrap .i64 (Int.tmod (Go.IntKind.wrap .u64 f) 104)) 30 0 20000 10 100 60 3 0 0) == false then
          bif (Array.toList (ByteArray.data (S.q_wrong (Cf.mk 10000 700 60 6 1 2000 10000 2000 (Go.IntKind.wrap .i64 (Int.tmod (Go.IntKind.wrap .u64 a) 104)) (Go.IntKind.wrap .i64 (Int.tmod (Go.IntKind.wrap .u64 b) 104)) (Go.IntKind.wrap .i64 (Int.tmod (Go.IntKind.wrap .u64 f) 104)) 30 0 20000 10 100 60 3 0 0))) == Array.toList (ByteArray.data (bs []))) == false then
            bif Array.toList (ByteArray.data (S.q_wrong (Cf.mk 10000 700 60 6 1 2000 10000 2000 (Go.IntKind.wrap .i64 (Int.tmod (Go.IntKind.wrap .u64 a) 104)) (Go.IntKind.wrap .i64 (Int.tmod (Go.IntKind.wrap .u64 b) 104)) (Go.IntKind.wrap .i64 (Int.tmod (Go.IntKind.wrap .u64 f) 104)) 30 0 20000 10 100 60 3 0 0))) == Array.toList (ByteArray.data (bs [109, 105, 110])) then
              bif decide (S.cmost (Cf.mk 10000 700 60 6 1 2000 10000 2000 (Go.IntKind.wrap .i64 (Int.tmod (Go.IntKind.wrap .u64 a) 104)) (Go.IntKind.wrap .i64 (Int.tmod (Go.IntKind.wrap .u64 b) 104)) (Go.IntKind.wrap .i64 (Int.tmod (Go.IntKind.wrap .u64 f) 104)) 30 0 20000 10 100 60 3 0 0) = 100) then
                (decide (Go.IntKind.wrap .i64 (Int.tmod (Go.IntKind.wrap .u64 b) 104) = 0) == !decide (Go.IntKind.wrap .i64 (Int.tmod (Go.IntKind.wrap .u64 b) 104) = 100))
              else
                (decide (Go.IntKind.wrap .i64 (Int.tmod (Go.IntKind.wrap .u64 b) 104) = 0) == false)
            else
              bif Array.toList (ByteArray.data (S.q_wrong (Cf.mk 10000 700 60 6 1 2000 10000 2000 (Go.IntKind.wrap .i64 (Int.tmod (Go.IntKind.wrap .u64 a) 104)) (Go.IntKind.wrap .i64 (Int.tmod (Go.IntKind.wrap .u64 b) 104)) (Go.IntKind.wrap .i64 (Int.tmod (Go.IntKind.wrap .u64 f) 104)) 30 0 20000 10 100 60 3 0 0))) == Array.toList (ByteArray.data (bs [109, 97, 120])) then
                bif decide (S.cmost (Cf.mk 10000 700 60 6 1 2000 10000 2000 (Go.IntKind.wrap .i64 (Int.tmod (Go.IntKind.wrap .u64 a) 104)) (Go.IntKind.wrap .i64 (Int.tmod (Go.IntKind.wrap .u64 b) 104)) (Go.IntKind.wrap .i64 (Int.tmod (Go.IntKind.wrap .u64 f) 104)) 30 0 20000 10 100 60 3 0 0) = 100) then
                  (decide (Go.IntKind.wrap .i64 (Int.tmod (Go.IntKind.wrap .u64 b) 104) = 0) == !decide (Go.IntKind.wrap .i64 (Int.tmod (Go.IntKind.wrap .u64 b) 104) = 100))
                else
                  (decide (Go.IntKind.wrap .i64 (Int.tmod (Go.IntKind.wrap .u64 b) 104) = 0) == false)
              else
                bif Array.toList (ByteArray.data (S.q_wrong (Cf.mk 10000 700 60 6 1 2000 10000 2000 (Go.IntKind.wrap .i64 (Int.tmod (Go.IntKind.wrap .u64 a) 104)) (Go.IntKind.wrap .i64 (Int.tmod (Go.IntKind.wrap .u64 b) 104)) (Go.IntKind.wrap .i64 (Int.tmod (Go.IntKind.wrap .u64 f) 104)) 30 0 20000 10 100 60 3 0 0))) == Array.toList (ByteArray.data (bs [105, 110, 105, 116, 105, 97, 108])) then
                  bif decide (S.cmost (Cf.mk 10000 700 60 6 1 2000 10000 2000 (Go.IntKind.wrap .i64 (Int.tmod (Go.IntKind.wrap .u64 a) 104)) (Go.IntKind.wrap .i64 (Int.tmod (Go.IntKind.wrap .u64 b) 104)) (Go.IntKind.wrap .i64 (Int.tmod (Go.IntKind.wrap .u64 f) 104)) 30 0 20000 10 100 60 3 0 0) = 100) then
                    (decide (Go.IntKind.wrap .i64 (Int.tmod (Go.IntKind.wrap .u64 b) 104) = 0) == !decide (Go.IntKind.wrap .i64 (Int.tmod (Go.IntKind.wrap .u64 b) 104) = 100))
                  else
                    (decide (Go.IntKind.wrap .i64 (Int.tmod (Go.IntKind.wrap .u64 b) 104) = 0) == false)
                else
                  (false)
          else
            (false)
        else
          (false)
  else
    bif S.q_may (Cf.mk 10000 700 60 6 1 2000 10000 2000 (Go.IntKind.wrap .i64 (Int.tmod (Go.IntKind.wrap .u64 a) 104)) (Go.IntKind.wrap .i64 (Int.tmod (Go.IntKind.wrap .u64 b) 104)) (Go.IntKind.wrap .i64 (Int.tmod (Go.IntKind.wrap .u64 f) 104)) 30 0 20000 10 100 60 3 0 0) == false then
      bif (Array.toList (ByteArray.data (S.q_wrong (Cf.mk 10000 700 60 6 1 2000 10000 2000 (Go.IntKind.wrap .i64 (Int.tmod (Go.IntKind.wrap .u64 a) 104)) (Go.IntKind.wrap .i64 (Int.tmod (Go.IntKind.wrap .u64 b) 104)) (Go.IntKind.wrap .i64 (Int.tmod (Go.IntKind.wrap .u64 f) 104)) 30 0 20000 10 100 60 3 0 0))) == Array.toList (ByteArray.data (bs []))) == false then
        bif Array.toList (ByteArray.data (S.q_wrong (Cf.mk 10000 700 60 6 1 2000 10000 2000 (Go.IntKind.wrap .i64 (Int.tmod (Go.IntKind.wrap .u64 a) 104)) (Go.IntKind.wrap .i64 (Int.tmod (Go.IntKind.wrap .u64 b) 104)) (Go.IntKind.wrap .i64 (Int.tmod (Go.IntKind.wrap .u64 f) 104)) 30 0 20000 10 100 60 3 0 0))) == Array.toList (ByteArray.data (bs [109, 105, 110])) then
          bif decide (S.cmost (Cf.mk 10000 700 60 6 1 2000 10000 2000 (Go.IntKind.wrap .i64 (Int.tmod (Go.IntKind.wrap .u64 a) 104)) (Go.IntKind.wrap .i64 (Int.tmod (Go.IntKind.wrap .u64 b) 104)) (Go.IntKind.wrap .i64 (Int.tmod (Go.IntKind.wrap .u64 f) 104)) 30 0 20000 10 100 60 3 0 0) = 100) then
            (decide (Go.IntKind.wrap .i64 (Int.tmod (Go.IntKind.wrap .u64 b) 104) = 0) == !decide (Go.IntKind.wrap .i64 (Int.tmod (Go.IntKind.wrap .u64 b) 104) = 100))
          else
            (decide (Go.IntKind.wrap .i64 (Int.tmod (Go.IntKind.wrap .u64 b) 104) = 0) == false)
        else
          bif Array.toList (ByteArray.data (S.q_wrong (Cf.mk 10000 700 60 6 1 2000 10000 2000 (Go.IntKind.wrap .i64 (Int.tmod (Go.IntKind.wrap .u64 a) 104)) (Go.IntKind.wrap .i64 (Int.tmod (Go.IntKind.wrap .u64 b) 104)) (Go.IntKind.wrap .i64 (Int.tmod (Go.IntKind.wrap .u64 f) 104)) 30 0 20000 10 100 60 3 0 0))) == Array.toList (ByteArray.data (bs [109, 97, 120])) then
            bif decide (S.cmost (Cf.mk 10000 700 60 6 1 2000 10000 2000 (Go.IntKind.wrap .i64 (Int.tmod (Go.IntKind.wrap .u64 a) 104)) (Go.IntKind.wrap .i64 (Int.tmod (Go.IntKind.wrap .u64 b) 104)) (Go.IntKind.wrap .i64 (Int.tmod (Go.IntKind.wrap .u64 f) 104)) 30 0 20000 10 100 60 3 0 0) = 100) then
              (decide (Go.IntKind.wrap .i64 (Int.tmod (Go.IntKind.wrap .u64 b) 104) = 0) == !decide (Go.IntKind.wrap .i64 (Int.tmod (Go.IntKind.wrap .u64 b) 104) = 100))
            else
              (decide (Go.IntKind.wrap .i64 (Int.tmod (Go.IntKind.wrap .u64 b) 104) = 0) == false)
          else
            bif Array.toList (ByteArray.data (S.q_wrong (Cf.mk 10000 700 60 6 1 2000 10000 2000 (Go.IntKind.wrap .i64 (Int.tmod (Go.IntKind.wrap .u64 a) 104)) (Go.IntKind.wrap .i64 (Int.tmod (Go.IntKind.wrap .u64 b) 104)) (Go.IntKind.wrap .i64 (Int.tmod (Go.IntKind.wrap .u64 f) 104)) 30 0 20000 10 100 60 3 0 0))) == Array.toList (ByteArray.data (bs [105, 110, 105, 116, 105, 97, 108])) then
              bif decide (S.cmost (Cf.mk 10000 700 60 6 1 2000 10000 2000 (Go.IntKind.wrap .i64 (Int.tmod (Go.IntKind.wrap .u64 a) 104)) (Go.IntKind.wrap .i64 (Int.tmod (Go.IntKind.wrap .u64 b) 104)) (Go.IntKind.wrap .i64 (Int.tmod (Go.IntKind.wrap .u64 f) 104)) 30 0 20000 10 100 60 3 0 0) = 100) then
                (decide (Go.IntKind.wrap .i64 (Int.tmod (Go.IntKind.wrap .u64 b) 104) = 0) == !decide (Go.IntKind.wrap .i64 (Int.tmod (Go.IntKind.wrap .u64 b) 104) = 100))
              else
                (decide (Go.IntKind.wrap .i64 (Int.tmod (Go.IntKind.wrap .u64 b) 104) = 0) == false)
            else
              (false)
      else
        (false)
    else
      (false)
theorem S.ConfMost_v {R : Type} (a b f : Int) (k : AVal → List Blk → Option R) : fnEval tis F14 0 G38s Try.f14 [.int .i64 a, .int .i64 b, .int .i64 f] [] k = k (.bool (S.ConfMost a b f)) [] :=
  (S.ConfMost_k a b f k).trans (bif_lift (f := (fun v : Bool => k (.bool v) [])) (bif_lift (f := (fun v : Bool => k (.bool v) [])) (bif_lift (f := (fun v : Bool => k (.bool v) [])) (bif_lift (f := (fun v : Bool => k (.bool v) [])) (bif_lift (f := (fun v : Bool => k (.bool v) [])) (bif_lift (f := (fun v : Bool => k (.bool v) [])) rfl rfl) rfl) rfl) (bif_lift (f := (fun v : Bool => k (.bool v) [])) (bif_lift (f := (fun v : Bool => k (.bool v) [])) (bif_lift (f := (fun v : Bool => k (.bool v) [])) (bif_lift (f := (fun v : Bool => k (.bool v) [])) (bif_lift (f := (fun v : Bool => k (.bool v) [])) (bif_lift (f := (fun v : Bool => k (.bool v) [])) (bif_lift (f := (fun v : Bool => k (.bool v) [])) rfl rfl) (bif_lift (f := (fun v : Bool => k (.bool v) [])) (bif_lift (f := (fun v : Bool => k (.bool v) [])) rfl rfl) (bif_lift (f := (fun v : Bool => k (.bool v) [])) (bif_lift (f := (fun v : Bool => k (.bool v) [])) rfl rfl) (bif_lift (f := (fun v : Bool => k (.bool v) [])) (bif_lift (f := (fun v : Bool => k (.bool v) [])) rfl rfl) rfl)))) rfl) rfl) (bif_lift (f := (fun v : Bool => k (.bool v) [])) (bif_lift (f := (fun v : Bool => k (.bool v) [])) (bif_lift (f := (fun v : Bool => k (.bool v) [])) (bif_lift (f := (fun v : Bool => k (.bool v) [])) rfl rfl) (bif_lift (f := (fun v : Bool => k (.bool v) [])) (bif_lift (f := (fun v : Bool => k (.bool v) [])) rfl rfl) (bif_lift (f := (fun v : Bool => k (.bool v) [])) (bif_lift (f := (fun v : Bool => k (.bool v) [])) rfl rfl) rfl))) rfl) rfl)) (bif_lift (f := (fun v : Bool => k (.bool v) [])) (bif_lift (f := (fun v : Bool => k (.bool v) [])) (bif_lift (f := (fun v : Bool => k (.bool v) [])) (bif_lift (f := (fun v : Bool => k (.bool v) [])) rfl rfl) (bif_lift (f := (fun v : Bool => k (.bool v) [])) (bif_lift (f := (fun v : Bool => k (.bool v) [])) rfl rfl) (bif_lift (f := (fun v : Bool => k (.bool v) [])) (bif_lift (f := (fun v : Bool => k (.bool v) [])) rfl rfl) rfl))) rfl) rfl)) (bif_lift (f := (fun v : Bool => k (.bool v) [])) (bif_lift (f := (fun v : Bool => k (.bool v) [])) (bif_lift (f := (fun v : Bool => k (.bool v) [])) (bif_lift (f := (fun v : Bool => k (.bool v) [])) rfl rfl) (bif_lift (f := (fun v : Bool => k (.bool v) [])) (bif_lift (f := (fun v : Bool => k (.bool v) [])) rfl rfl) (bif_lift (f := (fun v : Bool => k (.bool v) [])) (bif_lift (f := (fun v : Bool => k (.bool v) [])) rfl rfl) rfl))) rfl) rfl))) (bif_lift (f := (fun v : Bool => k (.bool v) [])) (bif_lift (f := (fun v : Bool => k (.bool v) [])) (bif_lift (f := (fun v : Bool => k (.bool v) [])) (bif_lift (f := (fun v : Bool => k (.bool v) [])) (bif_lift (f := (fun v : Bool => k (.bool v) [])) (bif_lift (f := (fun v : Bool => k (.bool v) [])) (bif_lift (f := (fun v : Bool => k (.bool v) [])) rfl rfl) (bif_lift (f := (fun v : Bool => k (.bool v) [])) (bif_lift (f := (fun v : Bool => k (.bool v) [])) rfl rfl) (bif_lift (f := (fun v : Bool => k (.bool v) [])) (bif_lift (f := (fun v : Bool => k (.bool v) [])) rfl rfl) (bif_lift (f := (fun v : Bool => k (.bool v) [])) (bif_lift (f := (fun v : Bool => k (.bool v) [])) rfl rfl) rfl)))) rfl) rfl) (bif_lift (f := (fun v : Bool => k (.bool v) [])) (bif_lift (f := (fun v : Bool => k (.bool v) [])) (bif_lift (f := (fun v : Bool => k (.bool v) [])) (bif_lift (f := (fun v : Bool => k (.bool v) [])) rfl rfl) (bif_lift (f := (fun v : Bool => k (.bool v) [])) (bif_lift (f := (fun v : Bool => k (.bool v) [])) rfl rfl) (bif_lift (f := (fun v : Bool => k (.bool v) [])) (bif_lift (f := (fun v : Bool => k (.bool v) [])) rfl rfl) rfl))) rfl) rfl)) (bif_lift (f := (fun v : Bool => k (.bool v) [])) (bif_lift (f := (fun v : Bool => k (.bool v) [])) (bif_lift (f := (fun v : Bool => k (.bool v) [])) (bif_lift (f := (fun v : Bool => k (.bool v) [])) rfl rfl) (bif_lift (f := (fun v : Bool => k (.bool v) [])) (bif_lift (f := (fun v : Bool => k (.bool v) [])) rfl rfl) (bif_lift (f := (fun v : Bool => k (.bool v) [])) (bif_lift (f := (fun v : Bool => k (.bool v) [])) rfl rfl) rfl))) rfl) rfl)) (bif_lift (f := (fun v : Bool => k (.bool v) [])) (bif_lift (f := (fun v : Bool => k (.bool v) [])) (bif_lift (f := (fun v : Bool => k (.bool v) [])) (bif_lift (f := (fun v : Bool => k (.bool v) [])) rfl rfl) (bif_lift (f := (fun v : Bool => k (.bool v) [])) (bif_lift (f := (fun v : Bool => k (.bool v) [])) rfl rfl) (bif_lift (f := (fun v : Bool => k (.bool v) [])) (bif_lift (f := (fun v : Bool => k (.bool v) [])) rfl rfl) rfl))) rfl) rfl))) (bif_lift (f := (fun v : Bool => k (.bool v) [])) (bif_lift (f := (fun v : Bool => k (.bool v) [])) (bif_lift (f := (fun v : Bool => k (.bool v) [])) (bif_lift (f := (fun v : Bool => k (.bool v) [])) rfl rfl) (bif_lift (f := (fun v : Bool => k (.bool v) [])) (bif_lift (f := (fun v : Bool => k (.bool v) [])) rfl rfl) (bif_lift (f := (fun v : Bool => k (.bool v) [])) (bif_lift (f := (fun v : Bool => k (.bool v) [])) rfl rfl) rfl))) rfl) rfl))
noncomputable def H14 : Hnd := fun R args σ k => match args, σ with
  | [.int .i64 a, .int .i64 b, .int .i64 f], [] => k (.bool (S.ConfMost a b f)) []
  | _, _ => none
theorem H14_ok : HndOk Try.prog 14 H14 := hnd_ok tis tisOk mixOk G38s_ok F14 Try.func14 rfl (by
  intro R args σ k r h
  unfold H14 at h
  split at h
  · rename_i a b f; exact ⟨0, (S.ConfMost_v a b f _).trans h⟩
  · cases h)
noncomputable def G14 : Env := Env.add 14 H14 G38s
theorem G14_ok : EnvOk Try.prog G14 := envAdd_ok H14_ok G38s_ok
end Go.Proofs.Ytjbdlnomjkhhbaa.AB
