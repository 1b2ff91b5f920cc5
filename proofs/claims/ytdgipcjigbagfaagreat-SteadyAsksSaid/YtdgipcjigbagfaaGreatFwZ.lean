/- Loops as functions: names for a loop's run and for what follows it. -/
import Derived.Test.YtdgipcjigbagfaaGreatFwW
namespace Go.Proofs.YtdgipcjigbagfaaGreat.AB

def bodyOf (fn : Func) : Code := match fn.body with | some c => c | none => .skip

def loopRun {R : Type} (C : Cfg) (Γ : Env) (c : Code) (n : Nat) (st : St) (K : Ex → St → Option R) : Option R :=
  iterF (fun st K => interp C Γ c st K) (clean C.m (C.keepL (firstReg c))) n st K

def loopCont {R : Type} (C : Cfg) (Γ : Env) (c : Code) (n : Nat) (K : Ex → St → Option R) : Ex → St → Option R :=
  iterK (fun st K => interp C Γ c st K) (clean C.m (C.keepL (firstReg c))) n K

theorem arr_lift {R α β : Type} {A : Option R} {X : Option α} {f : α → Option R} {g : β → Option R} {S : α → Option β} (hl : A = oK f X) (h : ∀ o, f o = oK g (S o)) : A = oK g (optK X S) := by
  subst hl
  cases X with
  | none => rfl
  | some o => exact h o

theorem sum_lift {R α β γ : Type} {F1 : α → Option R} {F2 : β → Option R} {g : γ → Option R} {S1 : α → Option γ} {S2 : β → Option γ} (h1 : ∀ z, F1 z = oK g (S1 z)) (h2 : ∀ z, F2 z = oK g (S2 z)) :
    ∀ o, Sum.elim F1 F2 o = oK g (Sum.elim S1 S2 o) := by
  intro o
  cases o with
  | inl z => exact h1 z
  | inr z => exact h2 z

theorem sumF_lift {R α β γ : Type} {f : γ → Option R} {F1 : α → Option R} {F2 : β → Option R} {S1 : α → γ} {S2 : β → γ} (h1 : ∀ z, F1 z = f (S1 z)) (h2 : ∀ z, F2 z = f (S2 z)) :
    ∀ o, Sum.elim F1 F2 o = f (Sum.elim S1 S2 o) := by
  intro o
  cases o with
  | inl z => exact h1 z
  | inr z => exact h2 z

/-- a choice by what is there -/
def optC {α β : Type} (o : Option α) (a : β) (k : α → β) : β := match o with | none => a | some x => k x
theorem optC_lift {R α γ : Type} {f : γ → Option R} {o : Option α} {A : Option R} {K : α → Option R} {a : γ} {k : α → γ} (h1 : A = f a) (h2 : ∀ x, K x = f (k x)) : optC o A K = f (optC o a k) := by
  cases o with
  | none => exact h1
  | some x => exact h2 x
end Go.Proofs.YtdgipcjigbagfaaGreat.AB
