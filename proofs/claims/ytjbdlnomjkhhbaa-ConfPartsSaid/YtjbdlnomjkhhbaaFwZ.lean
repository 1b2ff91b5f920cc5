/- Loops as functions: names for a loop's run and for what follows it. -/
import Derived.Test.YtjbdlnomjkhhbaaFwW
namespace Go.Proofs.Ytjbdlnomjkhhbaa.AB

def bodyOf (fn : Func) : Code := match fn.body with | some c => c | none => .skip

def loopRun {R : Type} (C : Cfg) (Γ : Env) (c : Code) (n : Nat) (st : St) (K : Ex → St → Option R) : Option R :=
  iterF (fun st K => interp C Γ c st K) (clean C.m (C.keepL (firstReg c))) n st K

def loopCont {R : Type} (C : Cfg) (Γ : Env) (c : Code) (n : Nat) (K : Ex → St → Option R) : Ex → St → Option R :=
  iterK (fun st K => interp C Γ c st K) (clean C.m (C.keepL (firstReg c))) n K

theorem arr_lift {R α β : Type} {A : Option R} {X : Option α} {f : α → Option R} {g : β → Option R} {S : α → Option β} (hl : A = oK f X) (h : ∀ o, f o = oK g (S o)) : A = oK g (optK X S) := by
  subst hl
  cases X with
  | none => rfl
  | some o => exact h o

theorem sum_lift {R α β γ : Type} {F1 : α → Option R} {F2 : β → Option R} {g : γ → Option R} {S1 : α → Option γ} {S2 : β → Option γ} (h1 : ∀ z, F1 z = oK g (S1 z)) (h2 : ∀ z, F2 z = oK g (S2 z)) :
    ∀ o, Sum.elim F1 F2 o = oK g (Sum.elim S1 S2 o) := by
  intro o
  cases o with
  | inl z => exact h1 z
  | inr z => exact h2 z
end Go.Proofs.Ytjbdlnomjkhhbaa.AB
