/- Environments of proved functions; tables of what is kept. -/
import Derived.Test.YtdgipcjigbagfaaGreatFwV
namespace Go.Proofs.YtdgipcjigbagfaaGreat.AB
variable {P : Program}

abbrev Hnd := (R : Type) → List AVal → List Blk → (AVal → List Blk → Option R) → Option R

def Env.add (f : Nat) (h : Hnd) (Γ : Env) : Env := fun R g args σ k => bif Nat.beq g f then h R args σ k else Γ R g args σ k

def HndOk (P : Program) (f : Nat) (h : Hnd) : Prop :=
  ∀ (R : Type) (args : List AVal) (σ : List Blk) (k : AVal → List Blk → Option R) (r : R), h R args σ k = some r → ∃ v σ' σk, k v σk = some r ∧ (σk = σ' ∨ (σk = [] ∧ σ' = σ)) ∧ Callable P f ∧ ACalls P f args σ v σ'

theorem envAdd_ok {f : Nat} {h : Hnd} {Γ : Env} (hh : HndOk P f h) (hΓ : EnvOk P Γ) : EnvOk P (Env.add f h Γ) := by
  intro R g args σ k r hr
  unfold Env.add at hr
  cases hb : Nat.beq g f with
  | true => rw [hb] at hr; have := Nat.eq_of_beq_eq_true hb; subst this; exact hh R args σ k r hr
  | false => rw [hb] at hr; exact hΓ R g args σ k r hr

theorem hnd_ok (tis : List TyI) (hti : TyOk P (tyAt tis)) (hmix : P.follows .mixedOrders = true) {Γ : Env} (hΓ : EnvOk P Γ) (F : FCfg) {f : Nat} {fn : Func} (hfn : P.funcs[f]? = some fn) (hname : (fn.name == "runtime.NumGoroutine") = false) {h : Hnd}
    (he : ∀ (R : Type) (args : List AVal) (σ : List Blk) (k : AVal → List Blk → Option R) (r : R), h R args σ k = some r → ∃ fuel, fnEval tis F fuel Γ fn args σ k = some r) : HndOk P f h := by
  intro R args σ k r hr
  obtain ⟨fuel, hf⟩ := he R args σ k r hr
  obtain ⟨v, σ', hk, h2⟩ := fn_sound tis hti hmix hΓ hfn hname hf
  exact ⟨v, σ', σ', hk, .inl rfl, h2⟩

open Classical in
/-- a function that changes nothing: its handler tells so by an empty store -/
theorem hnd_ok_pure (tis : List TyI) (hti : TyOk P (tyAt tis)) (hmix : P.follows .mixedOrders = true) {Γ : Env} (hΓ : EnvOk P Γ) (F : FCfg) {f : Nat} {fn : Func} (hfn : P.funcs[f]? = some fn) (hname : (fn.name == "runtime.NumGoroutine") = false) {h : Hnd}
    (he : ∀ (R : Type) (args : List AVal) (σ : List Blk) (k : AVal → List Blk → Option R) (r : R), h R args σ k = some r → ∃ fuel, fnEval tis F fuel Γ fn args σ (fun v σ2 => if σ2 = σ then k v [] else none) = some r) : HndOk P f h := by
  intro R args σ k r hr
  obtain ⟨fuel, hf⟩ := he R args σ k r hr
  obtain ⟨v, σ', hk, h2⟩ := fn_sound tis hti hmix hΓ hfn hname hf
  split at hk
  · rename_i e; exact ⟨v, σ', [], hk, .inr ⟨rfl, e⟩, h2⟩
  · cases hk

def keepAt : List (Nat × List Nat) → Nat → List Nat
  | [], _ => []
  | (i, l) :: r, n => bif Nat.beq i n then l else keepAt r n

def loopAt : List (Nat × List Nat × List Wd) → Nat → List Nat × List Wd
  | [], _ => ([], [])
  | (i, l) :: r, n => bif Nat.beq i n then l else loopAt r n

/-- a text of bytes -/
def bs (l : List Nat) : ByteArray := ⟨(l.map UInt8.ofNat).toArray⟩

/-- a choice between two answers is an answer by choice -/
theorem bif_lift {R β : Type} {f : β → Option R} {c : Bool} {x y : Option R} {u v : β} (hx : x = f u) (hy : y = f v) : (bif c then x else y) = f (bif c then u else v) := by
  cases c <;> assumption

def optK {α R : Type} (o : Option α) (k : α → Option R) : Option R := match o with | none => none | some a => k a
def oK {β R : Type} (k : β → Option R) (o : Option β) : Option R := match o with | none => none | some a => k a

theorem opt_lift {α R β : Type} {k : β → Option R} {o : Option α} {y : α → Option R} {v : α → Option β} (h : ∀ a, y a = oK k (v a)) : optK o y = oK k (optK o v) := by
  cases o with
  | none => rfl
  | some a => exact h a
end Go.Proofs.YtdgipcjigbagfaaGreat.AB
